-- Written by wip/tools/pp.py, a program of this session over the kit's printer: not the kit's own print
import Derived.Test.YtgcplipimcbhlaaGreatDoorPFnZReadx0
import Derived.Test.YtgcplipimcbhlaaGreatDoorPFnZReadx4
import Derived.Test.YtgcplipimcbhlaaGreatDoorPFnZReadx5
import Derived.Test.YtgcplipimcbhlaaGreatDoorPFnZReadx8
namespace Go.Proofs.YtgcplipimcbhlaaGreatDoor.PFnZRead
open Go.RowKit Go.Proofs.YtgcplipimcbhlaaGreatDoorW.PrintWords Go.Proofs.YtgcplipimcbhlaaGreatDoorW.PrintLast Go.Proofs.YtgcplipimcbhlaaGreatDoorW.PrintMore
attribute [local go_sem] max2_int min2_int max_two min_two max_three min_three max_four min_four   -- for this text's walks alone
set_option linter.unusedVariables false
set_option linter.unusedSimpArgs false

/-! ### impl_RowRead: function 26 (by hand) -/
/-- the cells of a text: what stands between its commas, read as numbers; none, if one is no number -/
def goB:List UInt8→List Int→List UInt8→Option (List Int)
 | _,rs,[]=>some rs
 | cur,rs,c :: l=>if c=44 then (match Lib.atoiAll cur with | .ok v=>goB [] (rs ++ [v]) l | _=>none) else goB (cur ++ [c]) rs l
theorem goB_skip : ∀ (m l:List UInt8) (cur:List UInt8) (rs:List Int),(∀ c ∈ m,c≠44)→goB cur rs (m ++ l)=goB (cur ++ m) rs l:=by
 intro m
 induction m with
 | nil=>intro l cur rs _;simp
 | cons c m ih =>
  intro l cur rs h
  rw [List.cons_append,goB,if_neg (h c List.mem_cons_self),ih _ _ _ (fun x hx=>h x (List.mem_cons_of_mem _ hx)),List.append_assoc]
  rfl
/-- a rune that is no ASCII byte passes over no comma -/
theorem decode_skip (s:ByteArray) (pos:Nat) (h:pos < s.size) (ha:128≤(s.get! pos).toNat):1≤(Utf8.decode s pos).2∧pos + (Utf8.decode s pos).2≤s.size∧128≤(Utf8.decode s pos).1∧∀ k,k < (Utf8.decode s pos).2→128≤(s.get! (pos + k)).toNat:=by
 rw [Lib.decode_at]
 unfold Lib.decodeN
 rw [if_neg (by omega)]
 repeat' split
 all_goals refine ⟨by simp only;omega,by simp only;omega,by simp only;omega,?_⟩
 all_goals intro k hk
 all_goals simp only at hk
 all_goals rcases k with _|_|_|_|k
 all_goals first|exact ha|(exfalso;omega)|(show 128≤(s.get! (pos + 1)).toNat;omega)|(show 128≤(s.get! (pos + 2)).toNat;omega)|(show 128≤(s.get! (pos + 3)).toNat;omega)

def impl_RowRead.f (k:Nat) (a0:ByteArray):Option (List Int × Bool) :=
 if a0.size > 100 then some ([],false) else
  match goB [] [] (a0.data.toList ++ [44]) with
  | none=>some ([],false)
  | some rs=>(impl_RowOk.f k rs).bind fun b=>if b=true then ((impl_RowText.f rs).bind fun t=>if t=a0 then some (rs,true) else some ([],false)) else some ([],false)
theorem impl_RowRead.mono : ∀ a0 k,LeO (impl_RowRead.f k a0) (impl_RowRead.f (k + 1) a0):=by
 intro a0 k
 unfold impl_RowRead.f
 refine LeO.ite (LeO.refl _) ?_
 cases goB [] [] (a0.data.toList ++ [44]) with
 | none=>exact LeO.refl _
 | some rs=>exact LeO.bind (impl_RowOk.mono _ _) (fun _=>LeO.refl _)
theorem bytes_ne {a b:ByteArray} (h:a≠b):(a.toList == b.toList)=false:=by
 rw [beq_eq_false_iff_ne]
 intro e
 rw [Lib.toList_data,Lib.toList_data] at e
 exact h (ByteArray.ext (Array.toList_inj.1 e))
theorem take_more (l:List UInt8) (f p n:Nat) (h:f≤p):(l.drop f).take (p + n - f)=(l.drop f).take (p - f) ++ (l.drop p).take n:=by
 rw [show p + n - f=(p - f) + n by omega,List.take_add,List.drop_drop,show f + (p - f)=p by omega]
/-- a rune that is no comma is passed over -/
theorem step_other (S:ByteArray) (pos f:Nat) (rs:List Int) (h:pos < S.size) (hf:f≤pos) (h44:(Utf8.decode S pos).1≠44):pos + (Utf8.decode S pos).2≤S.size∧1≤(Utf8.decode S pos).2 ∧
  goB ((S.data.toList.drop f).take (pos + (Utf8.decode S pos).2 - f)) rs (S.data.toList.drop (pos + (Utf8.decode S pos).2))=goB ((S.data.toList.drop f).take (pos - f)) rs (S.data.toList.drop pos):=by
 have hl:S.data.toList.length=S.size:=Array.length_toList
 have hget : ∀ k,pos + k < S.size→∀ c,S.data.toList[pos + k]?=some c→c=S.get! (pos + k):=by
  intro k hk c hc
  rw [List.getElem?_eq_getElem (by omega)] at hc
  rw [← Option.some.inj hc]
  show _=S.data[pos + k]!
  rw [getElem!_pos S.data (pos + k) (by exact hk)]
  exact Array.getElem_toList ..
 have key:1≤(Utf8.decode S pos).2∧pos + (Utf8.decode S pos).2≤S.size∧∀ k,k < (Utf8.decode S pos).2→S.get! (pos + k)≠44:=by
  by_cases ha:(S.get! pos).toNat < 128
  ·have e:S[pos]'h=S.get! pos:=(get_at S pos h).symm
   have hd:=decode_ascii S pos h (by rw [e];exact ha)
   rw [hd]
   refine ⟨Nat.le_refl _,h,fun k hk=>?_⟩
   have hk0:k=0:=by simp only at hk;omega
   subst hk0
   intro e44
   rw [hd] at h44
   apply h44
   show (S[pos]'h).toNat=44
   rw [e]
   have:S.get! pos=44:=e44
   rw [this]
   rfl
  ·obtain ⟨h1,h2,h3,h4⟩:=decode_skip S pos h (by omega)
   refine ⟨h1,h2,fun k hk e44=>?_⟩
   have:=h4 k hk
   rw [e44] at this
   exact absurd this (by decide)
 refine ⟨key.2.1,key.1,?_⟩
 rw [take_more _ f pos _ hf,show S.data.toList.drop pos=(S.data.toList.drop pos).take (Utf8.decode S pos).2 ++ S.data.toList.drop (pos + (Utf8.decode S pos).2) by rw [← List.drop_drop,List.take_append_drop]]
 rw [goB_skip]
 ·rw [List.take_append_of_le_length (by rw [List.length_take,List.length_drop];omega),List.take_take,Nat.min_self]
 ·intro c hc
  obtain ⟨k,hk⟩:=List.getElem?_of_mem hc
  have hk':k < (Utf8.decode S pos).2:=by
   have:=(List.getElem?_eq_some_iff.1 hk).1
   rw [List.length_take] at this
   omega
  rw [List.getElem?_take_of_lt hk',List.getElem?_drop] at hk
  rw [hget k (by omega) c hk]
  exact key.2.2 k hk'
theorem step_comma (a0 S:ByteArray) (hS:S.data.toList=a0.data.toList ++ [44]) (pos f:Nat) (h:pos < S.size) (hf:f≤pos) (hp:pos≤a0.size) (h44:(Utf8.decode S pos).1=44) :
  (Utf8.decode S pos).2=1∧(a0.extract f pos).data.toList=(S.data.toList.drop f).take (pos - f)∧S.data.toList.drop pos=44 :: S.data.toList.drop (pos + 1):=by
 have hl:a0.data.toList.length=a0.size:=Array.length_toList
 have hb:(S.get! pos).toNat < 128:=by
  by_cases ha:(S.get! pos).toNat < 128
  ·exact ha
  ·have:=(decode_skip S pos h (by omega)).2.2.1
   omega
 have e:S[pos]'h=S.get! pos:=(get_at S pos h).symm
 have hd:=decode_ascii S pos h (by rw [e];exact hb)
 refine ⟨by rw [hd],?_,?_⟩
 ·rw [hS,List.drop_append_of_le_length (by omega),List.take_append_of_le_length (by rw [List.length_drop];omega)]
  simp [ByteArray.data_extract]
 ·have hsl:pos < S.data.toList.length:=by rw [Array.length_toList];exact h
  rw [List.drop_eq_getElem_cons hsl]
  congr 1
  have:(S[pos]'h).toNat=44:=by rw [hd] at h44;exact h44
  have e2:S.data.toList[pos]=S[pos]'h:=Array.getElem_toList ..
  rw [e2]
  exact UInt8.toNat_inj.1 this
theorem infoInt:(Tryz.prog.info? 3).map (fun i=>(i.zero,i.size,i.bytes))=some (some (.int .i64 0),1,8):=by kernel_rfl
theorem below_iter {w W:World} (hb:Below w.heap.size w W) (s:ByteArray) (p:Nat):Below w.heap.size w (W.iterAt w.heap.size s p):=Lib.below_iterAt hb (k:=w.heap.size) (Nat.le_refl _) s p
theorem own_iter {W:World} {n:Nat} {e:TypeId} {v:Value} {m:Nat} {xs:List Value} (h:W.ownsRow (n + 1) e 1 v m xs) (s:ByteArray) (p:Nat):(W.iterAt n s p).ownsRow (n + 1) e 1 v m xs :=
 own_move h (fun k hk=>Lib.iterAt_other W n k s p (by have:=(h.lt k hk).1;omega))
set_option maxHeartbeats 8000000 in
set_option maxRecDepth 100000 in
theorem impl_RowRead.calls (k:Nat) (a0:ByteArray) (r1:List Int) (r2:Bool) (w:World) (h:impl_RowRead.f k a0=some (r1,r2)) (hT:TxtW w:=by exact TxtW.on HT0.out zhb) :
  Calls Tryz.prog 26 #[.string a0] w fun e w'=>∃ v0_:Value,e=.returned (.tuple #[v0_,.bool r2])∧Kd.R (Kd.int .i64) 3 w' w.heap.size (fun _=>True) v0_ r1∧Below w.heap.size w w':=by
 have HT:=Aside0.mk hT
 clear hT
 unfold impl_RowRead.f at h
 by_cases h0:a0.size > 100
 ·rw [if_pos h0] at h
  injection h with h
  injection h with e1 e2
  subst e1 e2
  have c0:decide (100 < (a0.size:Int))=true:=decide_eq_true (by omega)
  clear h0
  go_enter Tryz.func26,Tryz.ntmps26
  go_wp2
  go_step3
  go_wp2
  rw [Exit.noGoto_ret]
  go_ret2
  exact ⟨_,rfl,Kd.R_nil _ _ _ _ _,Below.refl _ _⟩
 rw [if_neg h0] at h
 have HF:=Aside0.mk h
 clear h
 have c0:decide (100 < (a0.size:Int))=false:=decide_eq_false (by omega)
 have hcat:a0.size + 1≤9223372036854775807:=by omega
 obtain ⟨S,hS⟩ : ∃ S,S=a0 ++ (⟨#[44]⟩:ByteArray):=⟨_,rfl⟩
 have hSz:S.size=a0.size + 1:=by rw [hS,ByteArray.size_append];rfl
 have HS:=Aside0.mk hS
 have HSZ:=Aside0.mk hSz
 have HSD:=Aside0.mk (show S.data.toList=a0.data.toList ++ [44] by rw [hS,ByteArray.data_append,Array.toList_append])
 have HA:=Aside0.mk (show a0.size≤100 by omega)
 have hS':=hS.symm
 obtain ⟨i0,hi,hz0,hz1,hz2⟩:=info_parts infoInt
 clear hS hSz h0
 go_enter Tryz.func26,Tryz.ntmps26
 go_wp2
 go_step3
 go_wp2
 go_step3
 go_wp2
 go_loopw [4,5] (fun v f wr=>∃ (pos from_:Nat) (rs:List Int),pos≤S.size∧from_≤pos∧f=.int .i64 from_∧wr.heap[w.heap.size]?=some (.stringIter S pos)∧wr.ownsRow (w.heap.size + 1) 3 1 v rs.length (encs (Value.int .i64) rs)∧Below w.heap.size w wr∧rs.length≤from_∧goB ((S.data.toList.drop from_).take (pos - from_)) rs (S.data.toList.drop pos)=goB [] [] S.data.toList)
  (fun _ _ wr=>S.size - wr.iterPos w.heap.size)
 case atStart =>
  refine ⟨0,0,[],Nat.zero_le _,Nat.le_refl _,rfl,?_,World.ownsRow_nil _ _ _ _,?_,Nat.le_refl _,?_⟩
  ·rw [HS.out];exact World.iter_heap w _ 0
  ·exact (Below.refl _ w).alloc (Nat.le_refl _) _
  ·simp
 case round =>
  obtain ⟨pos,from_,rs,hp,hfp,rfl,hit,hown,hnx,hrl,hgo⟩:=hrel
  have HIT:=Aside0.mk hit
  have HOW:=Aside0.mk hown
  have HNX:=Aside0.mk hnx
  have HGO:=Aside0.mk hgo
  have HRL:=Aside0.mk hrl
  have HFP:=Aside0.mk hfp
  have HSI:=Aside0.mk (show w.heap.size < wr.heap.size from (Array.getElem?_eq_some_iff.1 hit).1)
  clear hit hown hnx hgo hrl hfp
  by_cases hlt:pos < S.size
  case neg =>
   have hnext : ∀ ty,(Instr.next (.pointer (some ⟨w.heap.size,0,none⟩)) true ty).run Tryz.prog wr=_:=fun ty=>Lib.run_next_end_at wr w.heap.size S pos ty HIT.out hlt
   have HG:=Aside0.mk (show goB [] [] (a0.data.toList ++ [44])=some rs by
    rw [← HSD.out,← HGO.out,show S.data.toList.drop pos = [] from List.drop_of_length_le (by rw [Array.length_toList];show S.size≤pos;omega),goB])
   have h:=HF.out
   rw [HG.out] at h
   replace h:=Option.bind_eq_some_iff.mp h
   obtain ⟨b,h_,h⟩:=h
   have A1:=Aside0.mk h_
   have HR:=Aside0.mk (Kd.R_of_own (h1:=fun _=>rfl) (ok:=fun _=>True) HOW.out (fun _ _=>trivial))
   obtain ⟨a4,c4,rfl⟩:=Kd.R_slice HR.out
   have HX:=Aside0.mk (Kd.R_reads' HR.out).2.2
   have HP:=Aside0.mk (Kd.R_reads' HR.out).2.1
   clear h_ HF hlt hp
   cases b with
   | false =>
    rw [if_neg (by decide)] at h
    injection h with h
    injection h with e1 e2
    subst e1 e2
    go_wp2_with fail
    refine (impl_RowOk.calls k _ _ rs false _ HX.out HP.out A1.out).mono ?_
    rintro e w1 ⟨rfl,hd⟩
    have hb:Below wr.heap.size wr w1:=by obtain ⟨n,rfl⟩:=hd;exact pw_below_drewN (Below.refl _ _) n
    have HB1:=Aside0.mk (HNX.out.trans (hb.mono HNX.out.size))
    clear hb hd
    go_wp2
    rw [Exit.noGoto_ret]
    go_ret2
    exact ⟨_,rfl,Kd.R_nil _ _ _ _ _,HB1.out⟩
   | true =>
   rw [if_pos rfl] at h
   replace h:=Option.bind_eq_some_iff.mp h
   obtain ⟨t,h_,h⟩:=h
   have A2:=Aside0.mk h_
   have HH:=Aside0.mk h
   clear h_ h
   go_wp2_with fail
   refine (impl_RowOk.calls k _ _ rs true _ HX.out HP.out A1.out).mono ?_
   rintro e w1 ⟨rfl,hd⟩
   have hb:Below wr.heap.size wr w1:=by obtain ⟨n,rfl⟩:=hd;exact pw_below_drewN (Below.refl _ _) n
   have HB1:=Aside0.mk (HNX.out.trans (hb.mono HNX.out.size))
   have HBq:=Aside0.mk hb
   clear hb hd
   go_wp2_with fail
   refine (impl_RowText.calls _ _ rs t _ (Kd.C_below HX.out HBq.out) HP.out A2.out (Lib.tabBelow_of_tabIs HT.out.1 _ HB1.out)).mono ?_
   rintro e w2 ⟨rfl,hb⟩
   have HB2:=Aside0.mk (HB1.out.trans (hb.mono HB1.out.size))
   have HBr:=Aside0.mk (below_step HBq.out hb)
   clear hb
   have h:=HH.out
   clear HH
   by_cases ht:t=a0
   ·subst ht
    rw [if_pos rfl] at h
    injection h with h
    injection h with e1 e2
    subst e1 e2
    go_wp2
    rw [Exit.noGoto_ret]
    go_ret2
    exact ⟨_,rfl,Kd.R_lower (Kd.R_below HR.out HBr.out) (Nat.le_succ _),HB2.out⟩
   ·rw [if_neg ht] at h
    injection h with h
    injection h with e1 e2
    subst e1 e2
    have ht0:=bytes_ne ht
    go_wp2
    rw [Exit.noGoto_ret]
    go_ret2
    exact ⟨_,rfl,Kd.R_nil _ _ _ _ _,HB2.out⟩
  have hnext : ∀ ty,(Instr.next (.pointer (some ⟨w.heap.size,0,none⟩)) true ty).run Tryz.prog wr=_:=fun ty=>Lib.run_next_any_at wr w.heap.size S pos ty HIT.out hlt
  by_cases h44:(Utf8.decode S pos).1=44
  case neg =>
   have i44b : ¬ ((Utf8.decode S pos).1:Int)=44:=by omega
   have HNI:=Aside0.mk (below_iter HNX.out S (pos + (Utf8.decode S pos).2))
   have HOI:=Aside0.mk (own_iter HOW.out S (pos + (Utf8.decode S pos).2))
   have HII:=Aside0.mk (Lib.iterAt_heap wr w.heap.size S pos (pos + (Utf8.decode S pos).2) HIT.out)
   have HST:=Aside0.mk (step_other S pos from_ rs hlt HFP.out h44)
   clear h44
   go_wp2_with fail
   go_roundw
   case rel =>
    exact ⟨pos + (Utf8.decode S pos).2,from_,rs,HST.out.1,by have:=HFP.out;omega,rfl,HII.out,HOI.out,HNI.out,HRL.out,HST.out.2.2.trans HGO.out⟩
   case measure =>
    simp only [World.iterPos,HII.out,HIT.out]
    have:=HST.out.2.1
    omega
  have i44b:((Utf8.decode S pos).1:Int)=44:=by omega
  have i44c:IntKind.i32.wrap 44=44:=rfl
  have hpa:pos≤a0.size:=by have:=HSZ.out;omega
  have hfp2:=HFP.out
  have HSC:=Aside0.mk (step_comma a0 S HSD.out pos from_ hlt hfp2 hpa h44)
  have hw1:=HSC.out.1
  rw [hw1] at hnext
  have HNI:=Aside0.mk (below_iter HNX.out S (pos + 1))
  have HOI:=Aside0.mk (own_iter HOW.out S (pos + 1))
  have HII:=Aside0.mk (Lib.iterAt_heap wr w.heap.size S pos (pos + 1) HIT.out)
  have HZI:=Aside0.mk (show w.heap.size + 1≤(wr.iterAt w.heap.size S (pos + 1)).heap.size by rw [Lib.iterAt_size];exact HSI.out)
  have HIP:=Aside0.mk (show wr.iterPos w.heap.size=pos by simp only [World.iterPos,HIT.out])
  have HLT:=Aside0.mk hlt
  have HG2:=Aside0.mk (show goB [] [] S.data.toList=(match Lib.atoiAll (a0.extract from_ pos).data.toList with | .ok v=>goB [] (rs ++ [v]) (S.data.toList.drop (pos + 1))|_=>none) by
   rw [← HGO.out,HSC.out.2.2,HSC.out.2.1,goB,if_pos rfl])
  have HEX:=Aside0.mk (show (a0.extract from_ pos).size≤100 by
   show (a0.extract from_ pos).data.size≤100
   rw [← Array.length_toList,HSC.out.2.1,List.length_take]
   have:=HA.out
   omega)
  obtain ⟨W1,hW1⟩ : ∃ W1,W1=wr.iterAt w.heap.size S (pos + 1):=⟨_,rfl⟩
  rw [← hW1] at hnext
  rw [← hW1] at HNI HOI HII HZI
  clear hW1 hw1 h44 hlt
  have hret : ∀ (z:Lib.NumEnd Int),Lib.atoiAll (a0.extract from_ pos).data.toList=z→(∀ v,z≠.ok v)→r1 = []∧r2=false:=by
   intro z hz hn
   have h1:=HF.out
   have h2:=HG2.out
   rw [HSD.out,hz] at h2
   rw [h2] at h1
   cases z with
   | ok v=>exact absurd rfl (hn v)
   | range=>simp at h1;exact ⟨h1.1,h1.2⟩
   | _=>simp at h1;exact ⟨h1.1,h1.2⟩
  have HRT:=Aside0.mk hret
  clear hret
  cases hat:Lib.atoiAll (a0.extract from_ pos).data.toList with
  | ok v =>
   have HAT:=Aside0.mk hat
   clear hat
   go_wp2_with (go_at_call 27;refine (Tryz.strconv_Atoi_ok _ (by have:=HEX.out;omega) v HAT.out W1).mono ?_;rintro e W2 ⟨rfl,hw⟩;refine Hid.out ?_)
   refine Lib.hid ?_
   have hb:Below W1.heap.size W1 W2:=by
    rcases hw with rfl|⟨t,rfl⟩
    ·exact Below.refl _ _
    ·exact Lib.bytesWorld_below W1 _ t
   have HB1:=Aside0.mk hb
   have HNW:=Aside0.mk (HNI.out.trans (hb.mono HNI.out.size))
   have HOJ:=Aside0.mk (own_move HOI.out (fun k hk=>hb.block k (by
    obtain ⟨cells,hc⟩:=own_typed HOI.out k hk
    exact (Array.getElem?_eq_some_iff.1 hc).1)))
   have HIJ:=Aside0.mk ((hb.block _ (by have:=HZI.out;omega)).trans HII.out)
   have HZJ:=Aside0.mk (Nat.le_trans HZI.out hb.size)
   have HLN:=Aside0.mk (show rs.length≤100 by have:=HRL.out;have:=HFP.out;have:=HA.out;omega)
   have HWR:=Aside0.mk (show wrap64 ((pos:Int) + 1)=((pos + 1:Nat):Int) by have:=HA.out;unfold wrap64;omega)
   clear hw hb hfp2
   go_wp2_with (at_builtin;refine wpList_append_own _ rfl _ _ 31 rfl (w.heap.size + 1) 3 i0 (.int .i64 0) 1 8 Tryz.underlying31 hi hz0 hz1 hz2 rfl (by decide) _ _ _ rfl (HOJ.out.alloc _) ⟨W2.heap.size,0,none⟩ 1 1 [Value.int .i64 v] rfl rfl (by intro j u' hj;match j,hj with|0,hj=>simp at hj;subst hj;simp [Addr.add]) (by intro u' hu';simp at hu';subst hu';rfl) (by have:=HLN.out;unfold maxLen;omega) (by have:=HLN.out;omega) (by have:=HZJ.out;simp;omega) ?_)
   intro v3 w3 hown3 hgrow _
   have hnx3:Below w.heap.size w w3:=(HNW.out.alloc (by have:=HZJ.out;omega) _).grown hgrow (by have:=HZJ.out;simp;omega) (fun k_ hk_=>Nat.le_trans (Nat.le_succ _) (HOJ.out.lt k_ hk_).1)
   have hit3:w3.heap[w.heap.size]?=some (.stringIter S (pos + 1)):=by
    have h1:Below (w.heap.size + 1) W2 w3:=((Below.refl (w.heap.size + 1) W2).alloc HZJ.out _).grown hgrow (by have:=HZJ.out;simp;omega) (fun k_ hk_=>(HOJ.out.lt k_ hk_).1)
    exact (h1.block _ (Nat.lt_succ_self _)).trans HIJ.out
   have HOW3:=Aside0.mk hown3
   have HNX3:=Aside0.mk hnx3
   have HIT3:=Aside0.mk hit3
   clear hown3 hgrow hnx3 hit3
   go_wp2
   go_roundw
   case rel =>
    refine ⟨pos + 1,pos + 1,rs ++ [v],HLT.out,Nat.le_refl _,by first|rfl|simp,HIT3.out,?_,HNX3.out,?_,?_⟩
    ·have:=HOW3.out
     simpa [encs] using this
    ·have:=HRL.out;have:=HFP.out;rw [List.length_append,List.length_singleton];omega
    ·rw [Nat.sub_self,List.take_zero,HG2.out,HAT.out]
   case measure =>
    simp only [World.iterPos,HIT3.out]
    have:=HLT.out
    have h2:=HIP.out
    simp only [World.iterPos] at h2
    rw [h2]
    omega
  | range =>
   obtain ⟨rfl,rfl⟩:=HRT.out _ hat (fun v=>by intro h;cases h)
   have HAT:=Aside0.mk hat
   clear hat
   obtain ⟨tp,p,hv⟩:=(HT.out.on HNI.out).2.2.1
   have HV:=Aside0.mk hv
   clear hv
   go_wp2_with (go_at_call 27;refine (Tryz.strconv_Atoi_range_var _ (by have:=HEX.out;omega) HAT.out tp p W1 HV.out).mono ?_;rintro e W2 ⟨N,rfl,-,-,hb⟩;have HB2:=Aside0.mk (HNI.out.trans (hb.mono HNI.out.size));clear hb)
   rw [Exit.noGoto_ret]
   go_ret2
   exact ⟨_,rfl,Kd.R_nil _ _ _ _ _,HB2.out⟩
  | _ =>
   obtain ⟨rfl,rfl⟩:=HRT.out _ hat (fun v=>by intro h;cases h)
   have HAT:=Aside0.mk hat
   clear hat
   obtain ⟨tp,p,hv⟩:=(HT.out.on HNI.out).2.1
   have HV:=Aside0.mk hv
   clear hv
   go_wp2_with (go_at_call 27;refine (Tryz.strconv_Atoi_syntax_var _ (by have:=HEX.out;omega) HAT.out tp p W1 HV.out).mono ?_;rintro e W2 ⟨N,rfl,-,-,hb⟩;have HB2:=Aside0.mk (HNI.out.trans (hb.mono HNI.out.size));clear hb)
   rw [Exit.noGoto_ret]
   go_ret2
   exact ⟨_,rfl,Kd.R_nil _ _ _ _ _,HB2.out⟩

/-! ### strconv_Atoi: function 27 (by hand) -/
def strconv_Atoi.f (a0:ByteArray):Option (Int × Option Int):=if a0.size≤1048576 then (match Lib.atoiAll a0.data.toList with | .ok v=>some (v,none) | .range=>some (Lib.atoiSat a0.data.toList,some 0)|_=>some (0,some 0)) else none
/-- the error that goes with it: none, or one that is no nil -/
def ErrV:Option Int→Value→Prop
 | none,v=>v=.nilIface
 | some _,v=>∃ (t:TypeId) (p:Nat),v=.iface t (.pointer (some ⟨p,0,none⟩))
theorem strconv_Atoi.calls (a0:ByteArray) (r1:Int) (r2:Option Int) (w:World) (h:strconv_Atoi.f a0=some (r1,r2)) (hT:TxtW w:=by exact TxtW.on HT0.out zhb) :
  Calls Tryz.prog 27 #[.string a0] w fun e w'=>∃ ev:Value,ErrV r2 ev∧e=.returned (.tuple #[.int .i64 r1,ev])∧Below w.heap.size w w':=by
 unfold strconv_Atoi.f at h
 by_cases h1:a0.size≤1048576
 case neg=>rw [if_neg h1] at h;cases h
 rw [if_pos h1] at h
 obtain ⟨-,⟨t1,p1,hs⟩,⟨t2,p2,hr⟩,-⟩:=hT
 cases ha:Lib.atoiAll a0.data.toList with
 | ok v =>
  rw [ha] at h
  simp only [Option.some.injEq,Prod.mk.injEq] at h
  obtain ⟨rfl,rfl⟩:=h
  refine (Tryz.strconv_Atoi_ok a0 (by omega) v ha w).mono ?_
  rintro e w' ⟨rfl,h2⟩
  refine ⟨_,rfl,rfl,?_⟩
  rcases h2 with rfl|⟨t,rfl⟩
  ·exact Below.refl _ _
  ·exact Lib.bytesWorld_below w 5 t
 | range =>
  rw [ha] at h
  simp only [Option.some.injEq,Prod.mk.injEq] at h
  obtain ⟨rfl,rfl⟩:=h
  refine (Tryz.strconv_Atoi_range_var a0 (by omega) ha t2 p2 w hr).mono ?_
  rintro e w' ⟨N,rfl,-,-,hb⟩
  exact ⟨_,⟨_,_,rfl⟩,rfl,hb⟩
 | _ =>
  rw [ha] at h
  simp only [Option.some.injEq,Prod.mk.injEq] at h
  obtain ⟨rfl,rfl⟩:=h
  refine (Tryz.strconv_Atoi_syntax_var a0 (by omega) ha t1 p1 w hs).mono ?_
  rintro e w' ⟨N,rfl,-,-,hb⟩
  exact ⟨_,⟨_,_,rfl⟩,rfl,hb⟩

/-! ### impl_ZRead: function 8 -/
def impl_ZRead.l0:Nat→ByteArray→List (S33)→List ByteArray→Int→Int→Option ((List (S33)) × Bool)
 | 0,_,_,_,_,_=>none
 | k + 1,x0,x4,x20,x21,x22=>if x22 < x21 then (if 0≤x22 then (if x22 < (x20.length:Int) then ((strings_Cut.f (rdOf ByteArray.empty x20 x22) (⟨#[42]⟩:ByteArray)).bind fun bt224=>((impl_RowRead.f k bt224.1).bind fun bt227=>((strconv_Atoi.f bt224.2.1).bind fun bt231=>(if bt227.2=true then (if bt231.2.isNone=true then (if x4.length < 4398046511104 then (impl_ZRead.l0 k x0 (x4 ++ [(⟨bt227.1,bt231.1⟩:S33)]) x20 x21 (wrap64 (x22 + 1))) else (none)) else (some (([]:List (S33)),false))) else (some (([]:List (S33)),false)))))) else (none)) else (none)) else ((impl_ZOk.f k x4).bind fun t237=>(if t237=true then ((impl_ZText.f k x4).bind fun t238=>(if t238.toList=x0.toList then (some (x4,true)) else (some (([]:List (S33)),false)))) else (some (([]:List (S33)),false))))
def impl_ZRead.f (k:Nat) (a0:ByteArray):Option ((List (S33)) × Bool):=if (a0.size:Int) > 9000 then (some (([]:List (S33)),false)) else (if a0.toList=([]:List UInt8) then (some (([]:List (S33)),true)) else ((strings_Split.f a0 (⟨#[32]⟩:ByteArray)).bind fun t220=>(impl_ZRead.l0 k a0 ([]:List (S33)) t220 (t220.length:Int) 0)))
theorem impl_ZRead.mono_l : ∀ k,(∀ y0 y1 y2 y3 y4,LeO (impl_ZRead.l0 k y0 y1 y2 y3 y4) (impl_ZRead.l0 (k + 1) y0 y1 y2 y3 y4))
 | 0=>fun _ _ _ _ _ r h=>by simp [impl_ZRead.l0] at h
 | k + 1=>by
  have ih0:=impl_ZRead.mono_l k
  ·intro y0 y1 y2 y3 y4
   unfold impl_ZRead.l0
   repeat' first
   | (with_reducible exact ih0 _ _ _ _ _)
   | (with_reducible exact impl_RowRead.mono _ _)
   | (with_reducible exact impl_ZOk.mono _ _)
   | (with_reducible exact impl_ZText.mono _ _)
   | (with_reducible exact LeO.refl _)
   | (with_reducible exact LeO.none _)
   | (with_reducible refine LeO.ite ?_ ?_)
   | (with_reducible refine LeO.bind ?_ (fun _=>?_))
   | exact LeO.none _
   | refine LeO.ite ?_ ?_
   | refine LeO.bind ?_ (fun _=>?_)
theorem impl_ZRead.mono : ∀ a0 k,LeO (impl_ZRead.f k a0) (impl_ZRead.f (k + 1) a0):=by
 intro a0 k
 have ih0:=impl_ZRead.mono_l k
 unfold impl_ZRead.f
 repeat' first
   | (with_reducible exact ih0 _ _ _ _ _)
   | (with_reducible exact impl_RowRead.mono _ _)
   | (with_reducible exact impl_ZOk.mono _ _)
   | (with_reducible exact impl_ZText.mono _ _)
   | (with_reducible exact LeO.refl _)
   | (with_reducible exact LeO.none _)
   | (with_reducible refine LeO.ite ?_ ?_)
   | (with_reducible refine LeO.bind ?_ (fun _=>?_))
   | exact LeO.none _
   | refine LeO.ite ?_ ?_
   | refine LeO.bind ?_ (fun _=>?_)
set_option maxHeartbeats 8000000 in
set_option maxRecDepth 100000 in
theorem impl_ZRead.calls (k:Nat) (a0:ByteArray) (r1:List (S33)) (r2:Bool) (w:World) (h:impl_ZRead.f k a0=some (r1,r2)) (hT:TxtW w:=by exact TxtW.on HT0.out zhb) :
  Calls Tryz.prog 8 #[.string a0] w fun e w'=>∃ v0_:Value,e=.returned (.tuple #[v0_,.bool r2])∧Kd.S k33 33 w' w.heap.size (fun _=>True) v0_ r1∧Below w.heap.size w w':=by
 have HT0:=Aside0.mk hT
 clear hT
 have hu33:=Tryz.underlying33
 have hu51:=Tryz.underlying51
 have HB:=Aside0.mk (Below.refl w.heap.size w)
 have H:(if (a0.size:Int) > 9000 then (some (([]:List (S33)),false)) else (if a0.toList=([]:List UInt8) then (some (([]:List (S33)),true)) else ((strings_Split.f a0 (⟨#[32]⟩:ByteArray)).bind fun t220=>(impl_ZRead.l0 k a0 ([]:List (S33)) t220 (t220.length:Int) 0))))=some (r1,r2):=h
 clear h
 by_cases c2:(a0.size:Int) > 9000
 ·rw [if_pos c2] at H
  have c2b0:decide (9000 < (a0.size:Int))=true:=decide_eq_true c2
  have c2b1:decide (9000 < a0.size)=true:=decide_eq_true (by omega)
  clear c2
  simp only [Option.some.injEq,Prod.mk.injEq] at H
  obtain ⟨rfl,rfl⟩:=H
  go_enter Tryz.func8,Tryz.ntmps8
  go_wp2
  go_ret2
  exact ⟨_,by first|rfl|(simp [errW_none,errW_some] <;> rfl)|(simp [*,errW_none,errW_some] <;> rfl),by first|exact Kd.S_nil _ _ _ _ _|exact Kd.N_nil _ _ _ _ _|exact Kd.V_nil _ _ _ _ _|exact Kd.Q_nil _ _ _ _ _|exact Kd.R_nil _ _ _ _ _,zhb⟩
 ·rw [if_neg c2] at H
  have c2b0:decide (9000 < (a0.size:Int))=false:=decide_eq_false c2
  have c2b1:decide (9000 < a0.size)=false:=decide_eq_false (by omega)
  clear c2
  by_cases c3:a0.toList=([]:List UInt8)
  ·rw [if_pos c3] at H
   have c3b0:(a0.toList == ([]:List UInt8))=true:=beq_iff_eq.mpr c3
   have c3b1:(a0.toList != ([]:List UInt8))=false:=bne_eq_false_iff_eq.mpr c3
   clear c3
   simp only [Option.some.injEq,Prod.mk.injEq] at H
   obtain ⟨rfl,rfl⟩:=H
   go_enter Tryz.func8,Tryz.ntmps8
   go_wp2
   go_ret2
   exact ⟨_,by first|rfl|(simp [errW_none,errW_some] <;> rfl)|(simp [*,errW_none,errW_some] <;> rfl),by first|exact Kd.S_nil _ _ _ _ _|exact Kd.N_nil _ _ _ _ _|exact Kd.V_nil _ _ _ _ _|exact Kd.Q_nil _ _ _ _ _|exact Kd.R_nil _ _ _ _ _,zhb⟩
  ·rw [if_neg c3] at H
   have c3b0:(a0.toList == ([]:List UInt8))=false:=beq_eq_false_iff_ne.mpr c3
   have c3b1:(a0.toList != ([]:List UInt8))=true:=bne_iff_ne.mpr c3
   replace H:=Option.bind_eq_some_iff.mp H
   obtain ⟨t220,A40,H⟩:=H
   (try dsimp only at H)
   have A4:=Aside0.mk A40
   clear A40
   have H':=Aside0.mk H
   clear H
   go_enter Tryz.func8,Tryz.ntmps8
   go_wp2_with (first|((with_reducible refine gate_callee (f:=24) rfl ?_);refine goesL_ (some 20) rfl rfl Tryz.func24 (by kernel_rfl) rfl #[.string a0,.string (⟨#[32]⟩:ByteArray)] rfl zar ?_;(with_reducible refine (strings_Split.calls a0 (⟨#[32]⟩:ByteArray) t220 _ A4.out).mono ?_);rintro e w5 ⟨v221,rfl,ho0,hb⟩;refine ⟨_,rfl,?_⟩;have n0_:=Aside0.mk (Kd.R_lower ho0 (below_size zhb));have n1_:=Aside0.mk (below_step zhb hb);clear HB;have HO222:=n0_;have HB:=n1_;clear n0_ n1_;(try clear hb);(try clear hb2);(try clear hk);(try clear hi);(try clear ho0);obtain ⟨Ao6,co6,eo6⟩:=Kd.R_slice HO222.out;subst eo6))
   go_loopg [4,22] k (fun kq v4 v22 w'=>∃ (x4_1:List (S33)) (x22_1:Int),v22=.int .i64 x22_1∧Aside0 (impl_ZRead.l0 kq a0 x4_1 t220 (t220.length:Int) x22_1=some (r1,r2))∧Aside0 (kq≤k)∧Aside0 (Kd.S k33 33 w' w.heap.size (fun _=>True) v4 x4_1)∧Aside0 (Kd.R Kd.string 9 w' w.heap.size (fun _=>True) (.slice Ao6 t220.length co6) t220)∧Aside0 (Below w.heap.size w w'))
   case atStart=>exact ⟨(([]:List (S33))),(0),(by first|rfl|(simp;done)|(simp [*];done)),H',⟨Nat.le_refl _⟩,⟨by first|exact Kd.S_nil _ _ _ _ _|exact Kd.N_nil _ _ _ _ _|exact Kd.V_nil _ _ _ _ _|exact Kd.Q_nil _ _ _ _ _|exact Kd.R_nil _ _ _ _ _⟩,⟨by (with_reducible repeat (first|apply Kd.R_alloc|apply Kd.R_drewN|apply Kd.R_drew));exact HO222.out⟩,⟨zhb⟩⟩
   case round =>
    clear H'
    try clear c2
    try clear c2b0
    try clear c2b1
    try clear p2
    try clear c3
    try clear c3b0
    try clear c3b1
    obtain ⟨x4_1,x22_1,rfl,HA,HK1,HO_4,HO_20,HB⟩:=hrel
    cases gk with
    | zero=>exact absurd HA.out (by simp [impl_ZRead.l0])
    | succ k1 =>
     have H:=HA.out
     clear HA
     simp only [impl_ZRead.l0] at H
     by_cases c7:x22_1 < (t220.length:Int)
     ·rw [if_pos c7] at H
      have c7b0:decide (x22_1 < (t220.length:Int))=true:=decide_eq_true c7
      clear c7
      by_cases c8:0≤x22_1
      ·rw [if_pos c8] at H
       have c8b0:decide (0≤x22_1)=true:=decide_eq_true c8
       clear c8
       by_cases c9:x22_1 < (t220.length:Int)
       ·rw [if_pos c9] at H
        have c9b0:decide (x22_1 < (t220.length:Int))=true:=decide_eq_true c9
        clear c9
        replace H:=Option.bind_eq_some_iff.mp H
        obtain ⟨⟨t224,t225,t226⟩,A100,H⟩:=H
        (try dsimp only at H)
        have A10:=Aside0.mk A100
        clear A100
        replace H:=Option.bind_eq_some_iff.mp H
        obtain ⟨⟨t227,t228⟩,A110,H⟩:=H
        (try dsimp only at H)
        have A11:=Aside0.mk A110
        clear A110
        replace H:=Option.bind_eq_some_iff.mp H
        obtain ⟨⟨t231,t232⟩,A120,H⟩:=H
        (try dsimp only at H)
        have A12:=Aside0.mk A120
        clear A120
        by_cases c13:t228=true
        ·subst c13
         have H1:(if t232.isNone=true then (if x4_1.length < 4398046511104 then (impl_ZRead.l0 k1 a0 (x4_1 ++ [(⟨t227,t231⟩:S33)]) t220 (t220.length:Int) (wrap64 (x22_1 + 1))) else (none)) else (some (([]:List (S33)),false)))=some (r1,r2):=by rw [if_pos rfl] at H;exact H
         clear H
         have H:=H1
         clear H1
         rcases t232 with _|q233
         ·have H1:(if x4_1.length < 4398046511104 then (impl_ZRead.l0 k1 a0 (x4_1 ++ [(⟨t227,t231⟩:S33)]) t220 (t220.length:Int) (wrap64 (x22_1 + 1))) else (none))=some (r1,r2):=by rw [if_pos (show (none:Option Int).isNone=true by rfl)] at H;exact H
          clear H
          have H:=H1
          clear H1
          try simp only [errW_none,errW_some]
          by_cases c14:x4_1.length < 4398046511104
          ·rw [if_pos c14] at H
           have LMc14:=Aside0.mk c14
           clear c14
           obtain ⟨y234,hy234⟩ : ∃ y_:List (S33),y_=(x4_1 ++ [(⟨t227,t231⟩:S33)]):=⟨_,rfl⟩
           replace H:(impl_ZRead.l0 k1 a0 y234 t220 (t220.length:Int) (wrap64 (x22_1 + 1)))=some (r1,r2):=by first|(rw [hy234];with_reducible exact H)|(have H2_:=(Option.bind_some _ _).symm.trans H;rw [hy234];with_reducible exact H2_)|(have H2_:=(Option.bind_some _ _).symm.trans H;with_reducible exact H2_)|with_reducible exact H|(rw [hy234];exact H)|exact H
           have Ny234:=Aside0.mk hy234
           clear hy234
           have H':=Aside0.mk H
           clear H
           have p223:0≤(x22_1:Int):=zod
           have q223:x22_1 < (t220.length:Int):=zod
           obtain ⟨ad223,e223,hx223_0⟩:=Kd.at_string (Kd.R_reads' HO_20.out).2.2 x22_1 p223 q223
           cases e223
           replace p223:=eq_true p223
           replace q223:=eq_true q223
           go_wp2_with (first|((with_reducible refine gate_callee (f:=25) rfl ?_);refine goesL_ (some 28) rfl rfl Tryz.func25 (by kernel_rfl) rfl #[.string (rdOf ByteArray.empty t220 x22_1),.string (⟨#[42]⟩:ByteArray)] rfl zar ?_;(with_reducible refine (strings_Cut.calls (rdOf ByteArray.empty t220 x22_1) (⟨#[42]⟩:ByteArray) t224 t225 t226 _ A10.out).mono ?_);rintro e w15 ⟨rfl,hb⟩;refine ⟨_,rfl,?_⟩;have n0_:=Aside0.mk (Kd.S_below (by (with_reducible repeat (first|apply Kd.S_alloc|apply Kd.S_drewN|apply Kd.S_drew));exact HO_4.out) hb);have n1_:=Aside0.mk (Kd.R_below (by (with_reducible repeat (first|apply Kd.R_alloc|apply Kd.R_drewN|apply Kd.R_drew));exact HO_20.out) hb);have n2_:=Aside0.mk (below_step zhb hb);clear HO_4;clear HO_20;clear HB;have HO_4:=n0_;have HO_20:=n1_;have HB:=n2_;clear n0_ n1_ n2_;(try clear hb);(try clear hb2);(try clear hk);(try clear hi))|((with_reducible refine gate_callee (f:=26) rfl ?_);refine goesL_ (some 34) rfl rfl Tryz.func26 (by kernel_rfl) rfl #[.string t224] rfl zar ?_;(with_reducible refine (impl_RowRead.calls k1 t224 t227 true _ A11.out).mono ?_);rintro e w16 ⟨v229,rfl,ho0,hb⟩;refine ⟨_,rfl,?_⟩;have n0_:=Aside0.mk (Kd.S_elder' (by (with_reducible repeat (first|apply Kd.S_alloc|apply Kd.S_drewN|apply Kd.S_drew));exact HO_4.out) (Kd.R_base ho0) hb);have n1_:=Aside0.mk (Kd.R_below (by (with_reducible repeat (first|apply Kd.R_alloc|apply Kd.R_drewN|apply Kd.R_drew));exact HO_20.out) hb);have n2_:=Aside0.mk (Kd.R_lower ho0 (below_size zhb));have n3_:=Aside0.mk (below_step zhb hb);clear HO_4;clear HO_20;clear HB;have HO_4:=n0_;have HO_20:=n1_;have HO230:=n2_;have HB:=n3_;clear n0_ n1_ n2_ n3_;(try clear hb);(try clear hb2);(try clear hk);(try clear hi);(try clear ho0))|((with_reducible refine gate_callee (f:=27) rfl ?_);refine goesL_ (some 39) rfl rfl Tryz.func27 (by kernel_rfl) rfl #[.string t225] rfl zar ?_;(with_reducible refine (strconv_Atoi.calls t225 t231 none _ A12.out).mono ?_);rintro e w17 ⟨ev_,hv_,rfl,hb⟩;obtain rfl:=(show ev_=Value.nilIface from hv_);refine ⟨_,rfl,?_⟩;have n0_:=Aside0.mk (Kd.S_below (by (with_reducible repeat (first|apply Kd.S_alloc|apply Kd.S_drewN|apply Kd.S_drew));exact HO_4.out) hb);have n1_:=Aside0.mk (Kd.R_below (by (with_reducible repeat (first|apply Kd.R_alloc|apply Kd.R_drewN|apply Kd.R_drew));exact HO_20.out) hb);have n2_:=Aside0.mk (Kd.R_below (by (with_reducible repeat (first|apply Kd.R_alloc|apply Kd.R_drewN|apply Kd.R_drew));exact HO230.out) hb);have n3_:=Aside0.mk (below_step zhb hb);clear HO_4;clear HO_20;clear HO230;clear HB;have HO_4:=n0_;have HO_20:=n1_;have HO230:=n2_;have HB:=n3_;clear n0_ n1_ n2_ n3_;(try clear hb);(try clear hb2);(try clear hk);(try clear hi);(try simp only [errW_none,errW_some]);obtain ⟨Ao18,co18,eo18⟩:=Kd.R_slice HO230.out;subst eo18)|((with_reducible refine gate_builtin (b:=.append) (xs:=#[.tmp 48,.tmp 52]) rfl ?_);at_builtin;refine Kd.S_append k33 (w0:=w) w.heap.size rfl (.tmp 48) (.tmp 52) 23 33 (.agg #[(.slice none 0 0),(.int .i64 0)]) 32 rfl Tryz.underlying23 info33 rfl (by decide) (by omega) u4 x4_1 (⟨t227,t231⟩:S33) [.slice Ao18 t227.length co18,.int .i64 t231] (fun _=>True) (fun k_=>some k_=(.slice Ao18 t227.length co18:Value).ownBlock) rfl rfl ?aP (fun k_ hk_=>((Kd.R_mono (ok':=fun k_=>((fun _=>True)) k_∧some k_≠(u4:Value).ownBlock) (Kd.R_apart' (HO230.out) (Kd.S_typed HO_4.out) (by decide)) (fun k_ hk=>⟨trivial,hk.2⟩))).1 k_ hk_.symm) ?aF ?aO ?aB ?aS ?aL ?_;(case aP=>exact k33_mkM _ _ _ (⟨t227,t231⟩:S33) (Kd.R_mono (Kd.R_tight rfl (Kd.R_mono (ok':=fun k_=>((fun _=>True)) k_∧some k_≠(u4:Value).ownBlock) (Kd.R_apart' (HO230.out) (Kd.S_typed HO_4.out) (by decide)) (fun k_ hk=>⟨trivial,hk.2⟩))) (fun _ h_=>h_)));(case aB=>exact zhb);(case aF=>exact (fun _ _=>trivial));(case aO=>exact (by (with_reducible repeat (first|apply Kd.S_alloc|apply Kd.S_drewN|apply Kd.S_drew));exact Kd.S_mono HO_4.out (fun k_ hk=>⟨trivial,fun e_=>hk.2 e_⟩)));(case aS=>exact (below_size zhb));(case aL=>have:=LMc14.out;omega);intro v235 w19 ho hb hg hat;rw [← Ny234.out] at ho;have n0_:=Aside0.mk (Kd.R_over' (by (with_reducible repeat (first|apply Kd.R_alloc|apply Kd.R_drewN|apply Kd.R_drew));exact HO_20.out) (Kd.S_typed (by (with_reducible repeat (first|apply Kd.S_alloc|apply Kd.S_drewN|apply Kd.S_drew));exact HO_4.out)) (by decide) hg);have n1_:=Aside0.mk (hb);have n2_:=Aside0.mk (ho);clear HO_20;clear HB;clear HO_4;clear HO230;have HO_20:=n0_;have HB:=n1_;have HO236:=n2_;clear n0_ n1_ n2_;clear ho hb hg hat))
           go_roundg k1
           case measure=>have:=HK1.out;omega
           case rel=>exact ⟨(y234),(wrap64 (x22_1 + 1)),(by first|rfl|(simp;done)|(simp [*];done)),H',⟨by have:=HK1.out;omega⟩,⟨by (with_reducible repeat (first|apply Kd.S_alloc|apply Kd.S_drewN|apply Kd.S_drew));exact HO236.out⟩,⟨by (with_reducible repeat (first|apply Kd.R_alloc|apply Kd.R_drewN|apply Kd.R_drew));exact HO_20.out⟩,⟨zhb⟩⟩
          ·rw [if_neg c14] at H
           exact absurd H (by simp)
         ·have H1:(some (([]:List (S33)),false))=some (r1,r2):=by rw [if_neg (show ¬ (some q233).isNone=true by simp)] at H;exact H
          clear H
          have H:=H1
          clear H1
          try simp only [errW_none,errW_some]
          simp only [Option.some.injEq,Prod.mk.injEq] at H
          obtain ⟨rfl,rfl⟩:=H
          have p223:0≤(x22_1:Int):=zod
          have q223:x22_1 < (t220.length:Int):=zod
          obtain ⟨ad223,e223,hx223_0⟩:=Kd.at_string (Kd.R_reads' HO_20.out).2.2 x22_1 p223 q223
          cases e223
          replace p223:=eq_true p223
          replace q223:=eq_true q223
          go_wp2_with (first|((with_reducible refine gate_callee (f:=25) rfl ?_);refine goesL_ (some 28) rfl rfl Tryz.func25 (by kernel_rfl) rfl #[.string (rdOf ByteArray.empty t220 x22_1),.string (⟨#[42]⟩:ByteArray)] rfl zar ?_;(with_reducible refine (strings_Cut.calls (rdOf ByteArray.empty t220 x22_1) (⟨#[42]⟩:ByteArray) t224 t225 t226 _ A10.out).mono ?_);rintro e w20 ⟨rfl,hb⟩;refine ⟨_,rfl,?_⟩;have n0_:=Aside0.mk (Kd.S_below (by (with_reducible repeat (first|apply Kd.S_alloc|apply Kd.S_drewN|apply Kd.S_drew));exact HO_4.out) hb);have n1_:=Aside0.mk (Kd.R_below (by (with_reducible repeat (first|apply Kd.R_alloc|apply Kd.R_drewN|apply Kd.R_drew));exact HO_20.out) hb);have n2_:=Aside0.mk (below_step zhb hb);clear HO_4;clear HO_20;clear HB;have HO_4:=n0_;have HO_20:=n1_;have HB:=n2_;clear n0_ n1_ n2_;(try clear hb);(try clear hb2);(try clear hk);(try clear hi))|((with_reducible refine gate_callee (f:=26) rfl ?_);refine goesL_ (some 34) rfl rfl Tryz.func26 (by kernel_rfl) rfl #[.string t224] rfl zar ?_;(with_reducible refine (impl_RowRead.calls k1 t224 t227 true _ A11.out).mono ?_);rintro e w21 ⟨v229,rfl,ho0,hb⟩;refine ⟨_,rfl,?_⟩;have n0_:=Aside0.mk (Kd.S_elder' (by (with_reducible repeat (first|apply Kd.S_alloc|apply Kd.S_drewN|apply Kd.S_drew));exact HO_4.out) (Kd.R_base ho0) hb);have n1_:=Aside0.mk (Kd.R_below (by (with_reducible repeat (first|apply Kd.R_alloc|apply Kd.R_drewN|apply Kd.R_drew));exact HO_20.out) hb);have n2_:=Aside0.mk (Kd.R_lower ho0 (below_size zhb));have n3_:=Aside0.mk (below_step zhb hb);clear HO_4;clear HO_20;clear HB;have HO_4:=n0_;have HO_20:=n1_;have HO230:=n2_;have HB:=n3_;clear n0_ n1_ n2_ n3_;(try clear hb);(try clear hb2);(try clear hk);(try clear hi);(try clear ho0))|((with_reducible refine gate_callee (f:=27) rfl ?_);refine goesL_ (some 39) rfl rfl Tryz.func27 (by kernel_rfl) rfl #[.string t225] rfl zar ?_;(with_reducible refine (strconv_Atoi.calls t225 t231 (some q233) _ A12.out).mono ?_);rintro e w22 ⟨ev_,hv_,rfl,hb⟩;obtain ⟨tt_,pp_,rfl⟩:=(show ∃ (t_:TypeId) (p_:Nat),ev_=Value.iface t_ (.pointer (some ⟨p_,0,none⟩)) from hv_);refine ⟨_,rfl,?_⟩;have n0_:=Aside0.mk (Kd.S_below (by (with_reducible repeat (first|apply Kd.S_alloc|apply Kd.S_drewN|apply Kd.S_drew));exact HO_4.out) hb);have n1_:=Aside0.mk (Kd.R_below (by (with_reducible repeat (first|apply Kd.R_alloc|apply Kd.R_drewN|apply Kd.R_drew));exact HO_20.out) hb);have n2_:=Aside0.mk (Kd.R_below (by (with_reducible repeat (first|apply Kd.R_alloc|apply Kd.R_drewN|apply Kd.R_drew));exact HO230.out) hb);have n3_:=Aside0.mk (below_step zhb hb);clear HO_4;clear HO_20;clear HO230;clear HB;have HO_4:=n0_;have HO_20:=n1_;have HO230:=n2_;have HB:=n3_;clear n0_ n1_ n2_ n3_;(try clear hb);(try clear hb2);(try clear hk);(try clear hi);(try simp only [errW_none,errW_some])))
          go_ret2
          exact ⟨_,by first|rfl|(simp [errW_none,errW_some] <;> rfl)|(simp [*,errW_none,errW_some] <;> rfl),by first|exact Kd.S_nil _ _ _ _ _|exact Kd.N_nil _ _ _ _ _|exact Kd.V_nil _ _ _ _ _|exact Kd.Q_nil _ _ _ _ _|exact Kd.R_nil _ _ _ _ _,zhb⟩
        ·replace c13:=Bool.eq_false_iff.mpr c13
         subst c13
         have H1:(some (([]:List (S33)),false))=some (r1,r2):=by rw [if_neg (show ¬ (false=true) by decide)] at H;exact H
         clear H
         have H:=H1
         clear H1
         simp only [Option.some.injEq,Prod.mk.injEq] at H
         obtain ⟨rfl,rfl⟩:=H
         have p223:0≤(x22_1:Int):=zod
         have q223:x22_1 < (t220.length:Int):=zod
         obtain ⟨ad223,e223,hx223_0⟩:=Kd.at_string (Kd.R_reads' HO_20.out).2.2 x22_1 p223 q223
         cases e223
         replace p223:=eq_true p223
         replace q223:=eq_true q223
         go_wp2_with (first|((with_reducible refine gate_callee (f:=25) rfl ?_);refine goesL_ (some 28) rfl rfl Tryz.func25 (by kernel_rfl) rfl #[.string (rdOf ByteArray.empty t220 x22_1),.string (⟨#[42]⟩:ByteArray)] rfl zar ?_;(with_reducible refine (strings_Cut.calls (rdOf ByteArray.empty t220 x22_1) (⟨#[42]⟩:ByteArray) t224 t225 t226 _ A10.out).mono ?_);rintro e w23 ⟨rfl,hb⟩;refine ⟨_,rfl,?_⟩;have n0_:=Aside0.mk (Kd.S_below (by (with_reducible repeat (first|apply Kd.S_alloc|apply Kd.S_drewN|apply Kd.S_drew));exact HO_4.out) hb);have n1_:=Aside0.mk (Kd.R_below (by (with_reducible repeat (first|apply Kd.R_alloc|apply Kd.R_drewN|apply Kd.R_drew));exact HO_20.out) hb);have n2_:=Aside0.mk (below_step zhb hb);clear HO_4;clear HO_20;clear HB;have HO_4:=n0_;have HO_20:=n1_;have HB:=n2_;clear n0_ n1_ n2_;(try clear hb);(try clear hb2);(try clear hk);(try clear hi))|((with_reducible refine gate_callee (f:=26) rfl ?_);refine goesL_ (some 34) rfl rfl Tryz.func26 (by kernel_rfl) rfl #[.string t224] rfl zar ?_;(with_reducible refine (impl_RowRead.calls k1 t224 t227 false _ A11.out).mono ?_);rintro e w24 ⟨v229,rfl,ho0,hb⟩;refine ⟨_,rfl,?_⟩;have n0_:=Aside0.mk (Kd.S_elder' (by (with_reducible repeat (first|apply Kd.S_alloc|apply Kd.S_drewN|apply Kd.S_drew));exact HO_4.out) (Kd.R_base ho0) hb);have n1_:=Aside0.mk (Kd.R_below (by (with_reducible repeat (first|apply Kd.R_alloc|apply Kd.R_drewN|apply Kd.R_drew));exact HO_20.out) hb);have n2_:=Aside0.mk (Kd.R_lower ho0 (below_size zhb));have n3_:=Aside0.mk (below_step zhb hb);clear HO_4;clear HO_20;clear HB;have HO_4:=n0_;have HO_20:=n1_;have HO230:=n2_;have HB:=n3_;clear n0_ n1_ n2_ n3_;(try clear hb);(try clear hb2);(try clear hk);(try clear hi);(try clear ho0))|((with_reducible refine gate_callee (f:=27) rfl ?_);refine goesL_ (some 39) rfl rfl Tryz.func27 (by kernel_rfl) rfl #[.string t225] rfl zar ?_;(with_reducible refine (strconv_Atoi.calls t225 t231 t232 _ A12.out).mono ?_);rintro e w25 ⟨ev_,hv_,rfl,hb⟩;clear hv_;refine ⟨_,rfl,?_⟩;have n0_:=Aside0.mk (Kd.S_below (by (with_reducible repeat (first|apply Kd.S_alloc|apply Kd.S_drewN|apply Kd.S_drew));exact HO_4.out) hb);have n1_:=Aside0.mk (Kd.R_below (by (with_reducible repeat (first|apply Kd.R_alloc|apply Kd.R_drewN|apply Kd.R_drew));exact HO_20.out) hb);have n2_:=Aside0.mk (Kd.R_below (by (with_reducible repeat (first|apply Kd.R_alloc|apply Kd.R_drewN|apply Kd.R_drew));exact HO230.out) hb);have n3_:=Aside0.mk (below_step zhb hb);clear HO_4;clear HO_20;clear HO230;clear HB;have HO_4:=n0_;have HO_20:=n1_;have HO230:=n2_;have HB:=n3_;clear n0_ n1_ n2_ n3_;(try clear hb);(try clear hb2);(try clear hk);(try clear hi);(try simp only [errW_none,errW_some])))
         go_ret2
         exact ⟨_,by first|rfl|(simp [errW_none,errW_some] <;> rfl)|(simp [*,errW_none,errW_some] <;> rfl),by first|exact Kd.S_nil _ _ _ _ _|exact Kd.N_nil _ _ _ _ _|exact Kd.V_nil _ _ _ _ _|exact Kd.Q_nil _ _ _ _ _|exact Kd.R_nil _ _ _ _ _,zhb⟩
       ·rw [if_neg c9] at H
        exact absurd H (by simp)
      ·rw [if_neg c8] at H
       exact absurd H (by simp)
     ·rw [if_neg c7] at H
      have c7b0:decide (x22_1 < (t220.length:Int))=false:=decide_eq_false c7
      clear c7
      replace H:=Option.bind_eq_some_iff.mp H
      obtain ⟨t237,A260,H⟩:=H
      (try dsimp only at H)
      have A26:=Aside0.mk A260
      clear A260
      by_cases c27:t237=true
      ·subst c27
       have H1:((impl_ZText.f k1 x4_1).bind fun t238=>(if t238.toList=a0.toList then (some (x4_1,true)) else (some (([]:List (S33)),false))))=some (r1,r2):=by rw [if_pos rfl] at H;exact H
       clear H
       have H:=H1
       clear H1
       replace H:=Option.bind_eq_some_iff.mp H
       obtain ⟨t238,A280,H⟩:=H
       (try dsimp only at H)
       have A28:=Aside0.mk A280
       clear A280
       by_cases c29:t238.toList=a0.toList
       ·rw [if_pos c29] at H
        have c29b0:(t238.toList == a0.toList)=true:=beq_iff_eq.mpr c29
        have c29b1:(t238.toList != a0.toList)=false:=bne_eq_false_iff_eq.mpr c29
        clear c29
        simp only [Option.some.injEq,Prod.mk.injEq] at H
        obtain ⟨rfl,rfl⟩:=H
        obtain ⟨Ao30,co30,eo30⟩:=Kd.S_slice HO_4.out
        subst eo30
        go_wp2_with (first|((with_reducible refine gate_callee (f:=6) rfl ?_);refine goesL_ (some 56) rfl rfl Tryz.func6 (by kernel_rfl) rfl #[.slice Ao30 x4_1.length co30] rfl zar ?_;(with_reducible refine (impl_ZOk.calls k1 _ _ x4_1 true _ ?side1 ?side2 A26.out).mono ?_);(case side1=>repeat (first|exact (Kd.S_reads' HO_4.out).2.2|(with_reducible refine Kd.C_alloc ?_ _)|(with_reducible refine Kd.C_drewN ?_ _)|(with_reducible refine Kd.C_drew ?_)));(case side2=>exact (Kd.S_reads' HO_4.out).2.1);rintro e w31 ⟨rfl,hb⟩;refine ⟨_,rfl,?_⟩;have n0_:=Aside0.mk (Kd.S_below (by (with_reducible repeat (first|apply Kd.S_alloc|apply Kd.S_drewN|apply Kd.S_drew));exact HO_4.out) hb);have n1_:=Aside0.mk (Kd.R_below (by (with_reducible repeat (first|apply Kd.R_alloc|apply Kd.R_drewN|apply Kd.R_drew));exact HO_20.out) hb);have n2_:=Aside0.mk (below_step zhb hb);clear HO_4;clear HO_20;clear HB;have HO_4:=n0_;have HO_20:=n1_;have HB:=n2_;clear n0_ n1_ n2_;(try clear hb);(try clear hb2);(try clear hk);(try clear hi))|(go_at_call 9;(with_reducible refine (impl_ZText.calls k1 _ _ x4_1 t238 _ ?side1 ?side2 A28.out).mono ?_);(case side1=>repeat (first|exact (Kd.S_reads' HO_4.out).2.2|(with_reducible refine Kd.C_alloc ?_ _)|(with_reducible refine Kd.C_drewN ?_ _)|(with_reducible refine Kd.C_drew ?_)));(case side2=>exact (Kd.S_reads' HO_4.out).2.1);rintro e w32 ⟨rfl,hb⟩;have n0_:=Aside0.mk (Kd.S_below (by (with_reducible repeat (first|apply Kd.S_alloc|apply Kd.S_drewN|apply Kd.S_drew));exact HO_4.out) hb);have n1_:=Aside0.mk (Kd.R_below (by (with_reducible repeat (first|apply Kd.R_alloc|apply Kd.R_drewN|apply Kd.R_drew));exact HO_20.out) hb);have n2_:=Aside0.mk (below_step zhb hb);clear HO_4;clear HO_20;clear HB;have HO_4:=n0_;have HO_20:=n1_;have HB:=n2_;clear n0_ n1_ n2_;(try clear hb);(try clear hb2);(try clear hk);(try clear hi)))
        go_ret2
        exact ⟨_,by first|rfl|(simp [errW_none,errW_some] <;> rfl)|(simp [*,errW_none,errW_some] <;> rfl),by (with_reducible repeat (first|apply Kd.S_alloc|apply Kd.S_drewN|apply Kd.S_drew));exact HO_4.out,zhb⟩
       ·rw [if_neg c29] at H
        have c29b0:(t238.toList == a0.toList)=false:=beq_eq_false_iff_ne.mpr c29
        have c29b1:(t238.toList != a0.toList)=true:=bne_iff_ne.mpr c29
        simp only [Option.some.injEq,Prod.mk.injEq] at H
        obtain ⟨rfl,rfl⟩:=H
        obtain ⟨Ao33,co33,eo33⟩:=Kd.S_slice HO_4.out
        subst eo33
        go_wp2_with (first|((with_reducible refine gate_callee (f:=6) rfl ?_);refine goesL_ (some 56) rfl rfl Tryz.func6 (by kernel_rfl) rfl #[.slice Ao33 x4_1.length co33] rfl zar ?_;(with_reducible refine (impl_ZOk.calls k1 _ _ x4_1 true _ ?side1 ?side2 A26.out).mono ?_);(case side1=>repeat (first|exact (Kd.S_reads' HO_4.out).2.2|(with_reducible refine Kd.C_alloc ?_ _)|(with_reducible refine Kd.C_drewN ?_ _)|(with_reducible refine Kd.C_drew ?_)));(case side2=>exact (Kd.S_reads' HO_4.out).2.1);rintro e w34 ⟨rfl,hb⟩;refine ⟨_,rfl,?_⟩;have n0_:=Aside0.mk (Kd.S_below (by (with_reducible repeat (first|apply Kd.S_alloc|apply Kd.S_drewN|apply Kd.S_drew));exact HO_4.out) hb);have n1_:=Aside0.mk (Kd.R_below (by (with_reducible repeat (first|apply Kd.R_alloc|apply Kd.R_drewN|apply Kd.R_drew));exact HO_20.out) hb);have n2_:=Aside0.mk (below_step zhb hb);clear HO_4;clear HO_20;clear HB;have HO_4:=n0_;have HO_20:=n1_;have HB:=n2_;clear n0_ n1_ n2_;(try clear hb);(try clear hb2);(try clear hk);(try clear hi))|(go_at_call 9;(with_reducible refine (impl_ZText.calls k1 _ _ x4_1 t238 _ ?side1 ?side2 A28.out).mono ?_);(case side1=>repeat (first|exact (Kd.S_reads' HO_4.out).2.2|(with_reducible refine Kd.C_alloc ?_ _)|(with_reducible refine Kd.C_drewN ?_ _)|(with_reducible refine Kd.C_drew ?_)));(case side2=>exact (Kd.S_reads' HO_4.out).2.1);rintro e w35 ⟨rfl,hb⟩;have n0_:=Aside0.mk (Kd.S_below (by (with_reducible repeat (first|apply Kd.S_alloc|apply Kd.S_drewN|apply Kd.S_drew));exact HO_4.out) hb);have n1_:=Aside0.mk (Kd.R_below (by (with_reducible repeat (first|apply Kd.R_alloc|apply Kd.R_drewN|apply Kd.R_drew));exact HO_20.out) hb);have n2_:=Aside0.mk (below_step zhb hb);clear HO_4;clear HO_20;clear HB;have HO_4:=n0_;have HO_20:=n1_;have HB:=n2_;clear n0_ n1_ n2_;(try clear hb);(try clear hb2);(try clear hk);(try clear hi)))
        go_ret2
        exact ⟨_,by first|rfl|(simp [errW_none,errW_some] <;> rfl)|(simp [*,errW_none,errW_some] <;> rfl),by first|exact Kd.S_nil _ _ _ _ _|exact Kd.N_nil _ _ _ _ _|exact Kd.V_nil _ _ _ _ _|exact Kd.Q_nil _ _ _ _ _|exact Kd.R_nil _ _ _ _ _,zhb⟩
      ·replace c27:=Bool.eq_false_iff.mpr c27
       subst c27
       have H1:(some (([]:List (S33)),false))=some (r1,r2):=by rw [if_neg (show ¬ (false=true) by decide)] at H;exact H
       clear H
       have H:=H1
       clear H1
       simp only [Option.some.injEq,Prod.mk.injEq] at H
       obtain ⟨rfl,rfl⟩:=H
       obtain ⟨Ao36,co36,eo36⟩:=Kd.S_slice HO_4.out
       subst eo36
       go_wp2_with (first|((with_reducible refine gate_callee (f:=6) rfl ?_);refine goesL_ (some 56) rfl rfl Tryz.func6 (by kernel_rfl) rfl #[.slice Ao36 x4_1.length co36] rfl zar ?_;(with_reducible refine (impl_ZOk.calls k1 _ _ x4_1 false _ ?side1 ?side2 A26.out).mono ?_);(case side1=>repeat (first|exact (Kd.S_reads' HO_4.out).2.2|(with_reducible refine Kd.C_alloc ?_ _)|(with_reducible refine Kd.C_drewN ?_ _)|(with_reducible refine Kd.C_drew ?_)));(case side2=>exact (Kd.S_reads' HO_4.out).2.1);rintro e w37 ⟨rfl,hb⟩;refine ⟨_,rfl,?_⟩;have n0_:=Aside0.mk (Kd.S_below (by (with_reducible repeat (first|apply Kd.S_alloc|apply Kd.S_drewN|apply Kd.S_drew));exact HO_4.out) hb);have n1_:=Aside0.mk (Kd.R_below (by (with_reducible repeat (first|apply Kd.R_alloc|apply Kd.R_drewN|apply Kd.R_drew));exact HO_20.out) hb);have n2_:=Aside0.mk (below_step zhb hb);clear HO_4;clear HO_20;clear HB;have HO_4:=n0_;have HO_20:=n1_;have HB:=n2_;clear n0_ n1_ n2_;(try clear hb);(try clear hb2);(try clear hk);(try clear hi)))
       go_ret2
       exact ⟨_,by first|rfl|(simp [errW_none,errW_some] <;> rfl)|(simp [*,errW_none,errW_some] <;> rfl),by first|exact Kd.S_nil _ _ _ _ _|exact Kd.N_nil _ _ _ _ _|exact Kd.V_nil _ _ _ _ _|exact Kd.Q_nil _ _ _ _ _|exact Kd.R_nil _ _ _ _ _,zhb⟩

/-! ### slices_Clone_int_int: function 88 (by hand) -/
def slices_Clone_int_int.f (l0:List Int):Option (List Int):=if l0.length < 17592186044416 then (some l0) else (none)
set_option maxHeartbeats 8000000 in
set_option maxRecDepth 100000 in
theorem slices_Clone_int_int.calls (A0:Option Addr) (c0:Nat) (l0:List Int) (r:List Int) (w:World) (hr0:Kd.C (Kd.int .i64) w A0 l0.length l0) (hc0:l0.length≤c0) (h:slices_Clone_int_int.f l0=some r) :
  Calls Tryz.prog 88 #[.slice A0 l0.length c0] w fun e w'=>∃ v0_:Value,e=.returned (v0_)∧Kd.R (Kd.int .i64) 3 w' w.heap.size (fun _=>True) v0_ r∧Below w.heap.size w w':=by
 unfold slices_Clone_int_int.f at h
 by_cases hl:l0.length < 17592186044416
 ·rw [if_pos hl] at h
  obtain rfl:=Option.some.inj h
  clear h
  have HL:=Aside0.mk hl
  clear hl
  have hnil:=fun (W:World)=>Lib.run_eql_slice_nil (P:=Tryz.prog) W 31 3 A0 l0.length c0 0 0 Tryz.underlying31
  cases A0 with
  | none =>
   have h0:l0 = []:=by
    obtain ⟨_,_,h3⟩:=hr0
    cases l0 with
    | nil=>rfl
    | cons x l=>obtain ⟨ad,h4,_⟩:=h3 (by simp);cases h4
   subst h0
   clear hr0 hc0 HL
   have hnil0:=fun (W:World)=>Lib.run_eql_slice_nil (P:=Tryz.prog) W 31 3 none 0 c0 0 0 Tryz.underlying31
   go_enter Tryz.func88,Tryz.ntmps88
   go_wp2
   go_ret
   exact ⟨_,rfl,Kd.R_nil _ _ _ _ _,Below.refl _ _⟩
  | some ad =>
   have HR0:=Aside0.mk hr0
   have HC0:=Aside0.mk hc0
   clear hr0 hc0
   have HB:=Aside0.mk (Below.refl w.heap.size w)
   go_enter Tryz.func88,Tryz.ntmps88
   go_wp2_with (first|((with_reducible refine gate_dst (N:=5) rfl ?_);refine Kd.R_lit (Kd.int .i64) _ 3 ?hg (N:=5) ?hd (xs:=([]:List Int)) (inner:=[]) (ok:=fun _=>True) (okp:=fun _=>True) ?hr ?hp (fun _ hk=>hk) trivial (Below.refl _ _) (Nat.le_refl _) (by simp) ?_;(case hd=>rfl);(case hg=>rfl);(case hr=>first|(go_simp;done)|(go_simp;rfl));(case hp=>exact (Reps.none _ _));intro v105 w3 ho4 hb hg_ hnew_;clear hg_ hnew_;have HO106:=Aside0.mk (Kd.R_lower ho4 (below_size HB.out));have n1_:=Aside0.mk (below_step HB.out hb);clear HB;have HB:=n1_;clear n1_;clear hb ho4)|((with_reducible refine gate_builtin (b:=.append) (xs:=#[.tmp 5,.tmp 6]) rfl ?_);at_builtin;refine Kd.R_append_rows (Kd.int .i64) (w0:=w) w.heap.size rfl (.tmp 5) (.tmp 6) 31 3 (.int .i64 0) 8 rfl Tryz.underlying31 info3 rfl (by decide) (by omega) v105 [] l0 _ _ _ (fun _=>True) (fun _=>False) rfl rfl ?aO ?aR (fun _ _ h=>h) (fun _ h=>h.elim) ?aF ?aB ?aS ?aL ?_;(case aR=>exact (Kd.C_below HR0.out HB.out));(case aB=>exact HB.out);(case aF=>exact (fun _ _=>trivial));(case aO=>exact HO106.out);(case aS=>exact (below_size HB.out));(case aL=>have:=HL.out;simp;omega);intro v108 w5 ho hb hg hat;rw [List.nil_append] at ho;have n0_:=Aside0.mk (hb);have n1_:=Aside0.mk (ho);clear HB;clear HO106;have HB:=n0_;have HO109:=n1_;clear n0_ n1_;clear ho hb hg hat))
   go_ret
   exact ⟨_,rfl,HO109.out,HB.out⟩
 ·rw [if_neg hl] at h
  cases h

end Go.Proofs.YtgcplipimcbhlaaGreatDoor.PFnZRead
