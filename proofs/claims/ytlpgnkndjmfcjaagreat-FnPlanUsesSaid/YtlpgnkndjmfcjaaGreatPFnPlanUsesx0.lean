-- Written by wip/tools/pp.py, a program of this session over the kit's printer: not the kit's own print
import Derived.Test.YtlpgnkndjmfcjaaGreatProg
import Derived.Below
import Derived.Deep.Draws
import Derived.Deep.AppendLies
import Derived.Maps.AppendAt
import Derived.OwnWalk
import Derived.Laws.BytesArg
import Derived.Laws.MakeOwn
import Derived.Laws.OwnMore
import Derived.Deep.OwnRows
import Derived.Tactics
import Derived.Lib.ConvBytes
import Derived.Laws.Slices
import Derived.WalkKit
import Derived.KernelRfl
import Derived.RowKit3
import Derived.Deep.LoopGhost
import Derived.Deep.QuietTactic
import Derived.BigQuiet
import Derived.WideLaws
import Derived.Deep.DeepCutAuto
import Derived.Deep.CutBlock
import Derived.Deep.RegionHeld3
import Derived.Laws.Rows
import Derived.Lib.AppendStr
import Derived.ArgAppend
import Derived.Laws.IdiomCopy
import Derived.OrdersHeld
import Derived.Laws.BitsLemmas
import Derived.RowKit
import Derived.Test.YtlpgnkndjmfcjaaGreatWWords
import Derived.Test.YtlpgnkndjmfcjaaGreatWLast
import Derived.Test.YtlpgnkndjmfcjaaGreatWTab
import Derived.Test.YtlpgnkndjmfcjaaGreatWFour
import Derived.Test.YtlpgnkndjmfcjaaGreatWQPut
import Derived.Test.YtlpgnkndjmfcjaaGreatWApart
import Derived.Test.YtlpgnkndjmfcjaaGreatWArr
import Derived.Test.YtlpgnkndjmfcjaaGreatWZeros
import Derived.Test.YtlpgnkndjmfcjaaGreatWFoot
import Derived.Test.YtlpgnkndjmfcjaaGreatWKept
import Derived.Test.YtlpgnkndjmfcjaaGreatWShare
import Derived.Test.YtlpgnkndjmfcjaaGreatWN
import Derived.Test.YtlpgnkndjmfcjaaGreatWFootNe
import Derived.Test.YtlpgnkndjmfcjaaGreatWAt
import Derived.Test.YtlpgnkndjmfcjaaGreatWEqStruct
import Derived.Test.YtlpgnkndjmfcjaaGreatWRepsOne
import Derived.Test.YtlpgnkndjmfcjaaGreatWInv
import Derived.Test.YtlpgnkndjmfcjaaGreatWInvWords
import Derived.Test.YtlpgnkndjmfcjaaGreatWGuard
import Derived.Test.YtlpgnkndjmfcjaaGreatWNEv
import Derived.Test.YtlpgnkndjmfcjaaGreatWMore
import Derived.Test.YtlpgnkndjmfcjaaGreatMine
import Derived.Test.YtlpgnkndjmfcjaaGreatCut
namespace Go.Proofs.YtlpgnkndjmfcjaaGreat.PFnPlanUses
open Go.RowKit Go.Proofs.YtlpgnkndjmfcjaaGreatW.PrintWords Go.Proofs.YtlpgnkndjmfcjaaGreatW.PrintLast Go.Proofs.YtlpgnkndjmfcjaaGreatW.PrintMore
attribute [local go_sem] max2_int min2_int max_two min_two max_three min_three max_four min_four   -- for this text's walks alone
set_option linter.unusedVariables false
set_option linter.unusedSimpArgs false



def errW:Option Int→Value
 | none=>.nilIface
 | some c=>.iface 0 (.int .i64 c)
theorem errW_none:errW none=.nilIface:=rfl
theorem errW_some (c:Int):errW (some c)=.iface 0 (.int .i64 c):=rfl

theorem info3:(Tryz.prog.info? 3).map (fun i=>(i.zero,i.size,i.bytes))=some (some (.int .i64 0),1,8):=by kernel_rfl
theorem info5:(Tryz.prog.info? 5).map (fun i=>(i.zero,i.size,i.bytes))=some (some (.int .u8 0),1,1):=by kernel_rfl
-- the values' own types
/-! #### struct type 33 -/
structure S33 where
 f0:Int
 f1:Int
 f2:Int
 f3:Int
def z33:S33:=⟨(0:Int),(0:Int),(0:Int),(0:Int)⟩
def k33:Kd S33:=Kd.iso (Kd.pair (Kd.int .i64) (Kd.pair (Kd.int .i64) (Kd.pair (Kd.int .i64) (Kd.int .i64)))) (fun x:S33=>(x.f0,x.f1,x.f2,x.f3))
theorem k33_open {w:World} {x:S33} {cs:List Value} (h:k33.K w x cs):cs = [.int .i64 x.f0,.int .i64 x.f1,.int .i64 x.f2,.int .i64 x.f3]:=by
 obtain ⟨_,_,rfl,rfl,⟨_,_,rfl,rfl,⟨_,_,rfl,rfl,rfl⟩⟩⟩:=h
 exact rfl
theorem k33_openM {w:World} {base:Nat} {ok:Nat→Prop} {x:S33} {cs:List Value} (h:k33.M w base ok x cs):cs = [.int .i64 x.f0,.int .i64 x.f1,.int .i64 x.f2,.int .i64 x.f3]:=by
 obtain ⟨_,_,rfl,rfl,⟨_,_,rfl,rfl,⟨_,_,rfl,rfl,rfl⟩⟩⟩:=h
 exact rfl
theorem k33_mk (w:World) (x:S33) :k33.K w x [.int .i64 x.f0,.int .i64 x.f1,.int .i64 x.f2,.int .i64 x.f3]:=⟨[.int .i64 x.f0],[.int .i64 x.f1,.int .i64 x.f2,.int .i64 x.f3],rfl,rfl,⟨[.int .i64 x.f1],[.int .i64 x.f2,.int .i64 x.f3],rfl,rfl,⟨[.int .i64 x.f2],[.int .i64 x.f3],rfl,rfl,rfl⟩⟩⟩
theorem k33_mkM (w:World) (base:Nat) (ok:Nat→Prop) (x:S33) :k33.M w base ok x [.int .i64 x.f0,.int .i64 x.f1,.int .i64 x.f2,.int .i64 x.f3]:=⟨[.int .i64 x.f0],[.int .i64 x.f1,.int .i64 x.f2,.int .i64 x.f3],rfl,rfl,⟨[.int .i64 x.f1],[.int .i64 x.f2,.int .i64 x.f3],rfl,rfl,⟨[.int .i64 x.f2],[.int .i64 x.f3],rfl,rfl,rfl⟩⟩⟩
def rd_T33 (xs:List S33) (i:Int):S33:=xs.getD i.toNat z33
theorem at_T33 {w:World} {A:Option Addr} {n:Nat} {xs:List S33} (h:Kd.C k33 w A n xs) (i:Int) (h0:0≤i) (h1:i < n) : ∃ ad ,A=some ad∧w.cell? (ad.add (i.toNat * 4))=some (.int .i64 (rd_T33 xs i).f0)∧w.cell? ⟨(ad.add (i.toNat * 4)).block,(ad.add (i.toNat * 4)).off + 1,none⟩=some (.int .i64 (rd_T33 xs i).f1)∧w.cell? ⟨(ad.add (i.toNat * 4)).block,(ad.add (i.toNat * 4)).off + 2,none⟩=some (.int .i64 (rd_T33 xs i).f2)∧w.cell? ⟨(ad.add (i.toNat * 4)).block,(ad.add (i.toNat * 4)).off + 3,none⟩=some (.int .i64 (rd_T33 xs i).f3):=by
 obtain ⟨ad,c,e,_,hK,hc0⟩:=Kd.C_get h z33 i h0 h1
 have hc : ∀ j u,c[j]?=some u→w.cell? (ad.add (i.toNat * 4 + j))=some u:=hc0
 obtain rfl:=k33_open hK
 exact ⟨ad,e,hc 0 _ rfl,by rw [← add_field _ _ 1 (by omega)];exact hc 1 _ rfl,by rw [← add_field _ _ 2 (by omega)];exact hc 2 _ rfl,by rw [← add_field _ _ 3 (by omega)];exact hc 3 _ rfl⟩

/-! #### struct type 35 -/
structure S35 where
 f0:Int
 f1:Bool
 f2:S33
 f3:S33
def z35:S35:=⟨(0:Int),false,z33,z33⟩
def k35:Kd S35:=Kd.iso (Kd.pair (Kd.int .i64) (Kd.pair Kd.bool (Kd.pair k33 k33))) (fun x:S35=>(x.f0,x.f1,x.f2,x.f3))
theorem k35_open {w:World} {x:S35} {cs:List Value} (h:k35.K w x cs):cs = [.int .i64 x.f0,.bool x.f1,.int .i64 x.f2.f0,.int .i64 x.f2.f1,.int .i64 x.f2.f2,.int .i64 x.f2.f3,.int .i64 x.f3.f0,.int .i64 x.f3.f1,.int .i64 x.f3.f2,.int .i64 x.f3.f3]:=by
 obtain ⟨_,_,rfl,rfl,⟨_,_,rfl,rfl,⟨_,_,rfl,s2,s6⟩⟩⟩:=h
 obtain rfl:=k33_open s2
 obtain rfl:=k33_open s6
 exact rfl
theorem k35_openM {w:World} {base:Nat} {ok:Nat→Prop} {x:S35} {cs:List Value} (h:k35.M w base ok x cs):cs = [.int .i64 x.f0,.bool x.f1,.int .i64 x.f2.f0,.int .i64 x.f2.f1,.int .i64 x.f2.f2,.int .i64 x.f2.f3,.int .i64 x.f3.f0,.int .i64 x.f3.f1,.int .i64 x.f3.f2,.int .i64 x.f3.f3]:=by
 obtain ⟨_,_,rfl,rfl,⟨_,_,rfl,rfl,⟨_,_,rfl,s2,s6⟩⟩⟩:=h
 obtain rfl:=k33_openM s2
 obtain rfl:=k33_openM s6
 exact rfl
theorem k35_mk (w:World) (x:S35) :k35.K w x [.int .i64 x.f0,.bool x.f1,.int .i64 x.f2.f0,.int .i64 x.f2.f1,.int .i64 x.f2.f2,.int .i64 x.f2.f3,.int .i64 x.f3.f0,.int .i64 x.f3.f1,.int .i64 x.f3.f2,.int .i64 x.f3.f3]:=⟨[.int .i64 x.f0],[.bool x.f1,.int .i64 x.f2.f0,.int .i64 x.f2.f1,.int .i64 x.f2.f2,.int .i64 x.f2.f3,.int .i64 x.f3.f0,.int .i64 x.f3.f1,.int .i64 x.f3.f2,.int .i64 x.f3.f3],rfl,rfl,⟨[.bool x.f1],[.int .i64 x.f2.f0,.int .i64 x.f2.f1,.int .i64 x.f2.f2,.int .i64 x.f2.f3,.int .i64 x.f3.f0,.int .i64 x.f3.f1,.int .i64 x.f3.f2,.int .i64 x.f3.f3],rfl,rfl,⟨[.int .i64 x.f2.f0,.int .i64 x.f2.f1,.int .i64 x.f2.f2,.int .i64 x.f2.f3],[.int .i64 x.f3.f0,.int .i64 x.f3.f1,.int .i64 x.f3.f2,.int .i64 x.f3.f3],rfl,(k33_mk w x.f2 ),(k33_mk w x.f3 )⟩⟩⟩
theorem k35_mkM (w:World) (base:Nat) (ok:Nat→Prop) (x:S35) :k35.M w base ok x [.int .i64 x.f0,.bool x.f1,.int .i64 x.f2.f0,.int .i64 x.f2.f1,.int .i64 x.f2.f2,.int .i64 x.f2.f3,.int .i64 x.f3.f0,.int .i64 x.f3.f1,.int .i64 x.f3.f2,.int .i64 x.f3.f3]:=⟨[.int .i64 x.f0],[.bool x.f1,.int .i64 x.f2.f0,.int .i64 x.f2.f1,.int .i64 x.f2.f2,.int .i64 x.f2.f3,.int .i64 x.f3.f0,.int .i64 x.f3.f1,.int .i64 x.f3.f2,.int .i64 x.f3.f3],rfl,rfl,⟨[.bool x.f1],[.int .i64 x.f2.f0,.int .i64 x.f2.f1,.int .i64 x.f2.f2,.int .i64 x.f2.f3,.int .i64 x.f3.f0,.int .i64 x.f3.f1,.int .i64 x.f3.f2,.int .i64 x.f3.f3],rfl,rfl,⟨[.int .i64 x.f2.f0,.int .i64 x.f2.f1,.int .i64 x.f2.f2,.int .i64 x.f2.f3],[.int .i64 x.f3.f0,.int .i64 x.f3.f1,.int .i64 x.f3.f2,.int .i64 x.f3.f3],rfl,(k33_mkM w base ok x.f2 ),(k33_mkM w base ok x.f3 )⟩⟩⟩
def rd_T35 (xs:List S35) (i:Int):S35:=xs.getD i.toNat z35
theorem at_T35 {w:World} {A:Option Addr} {n:Nat} {xs:List S35} (h:Kd.C k35 w A n xs) (i:Int) (h0:0≤i) (h1:i < n) : ∃ ad ,A=some ad∧w.cell? (ad.add (i.toNat * 10))=some (.int .i64 (rd_T35 xs i).f0)∧w.cell? ⟨(ad.add (i.toNat * 10)).block,(ad.add (i.toNat * 10)).off + 1,none⟩=some (.bool (rd_T35 xs i).f1)∧w.cell? ⟨(ad.add (i.toNat * 10)).block,(ad.add (i.toNat * 10)).off + 2,none⟩=some (.int .i64 (rd_T35 xs i).f2.f0)∧w.cell? ⟨(ad.add (i.toNat * 10)).block,(ad.add (i.toNat * 10)).off + 3,none⟩=some (.int .i64 (rd_T35 xs i).f2.f1)∧w.cell? ⟨(ad.add (i.toNat * 10)).block,(ad.add (i.toNat * 10)).off + 4,none⟩=some (.int .i64 (rd_T35 xs i).f2.f2)∧w.cell? ⟨(ad.add (i.toNat * 10)).block,(ad.add (i.toNat * 10)).off + 5,none⟩=some (.int .i64 (rd_T35 xs i).f2.f3)∧w.cell? ⟨(ad.add (i.toNat * 10)).block,(ad.add (i.toNat * 10)).off + 6,none⟩=some (.int .i64 (rd_T35 xs i).f3.f0)∧w.cell? ⟨(ad.add (i.toNat * 10)).block,(ad.add (i.toNat * 10)).off + 7,none⟩=some (.int .i64 (rd_T35 xs i).f3.f1)∧w.cell? ⟨(ad.add (i.toNat * 10)).block,(ad.add (i.toNat * 10)).off + 8,none⟩=some (.int .i64 (rd_T35 xs i).f3.f2)∧w.cell? ⟨(ad.add (i.toNat * 10)).block,(ad.add (i.toNat * 10)).off + 9,none⟩=some (.int .i64 (rd_T35 xs i).f3.f3):=by
 obtain ⟨ad,c,e,_,hK,hc0⟩:=Kd.C_get h z35 i h0 h1
 have hc : ∀ j u,c[j]?=some u→w.cell? (ad.add (i.toNat * 10 + j))=some u:=hc0
 obtain rfl:=k35_open hK
 exact ⟨ad,e,hc 0 _ rfl,by rw [← add_field _ _ 1 (by omega)];exact hc 1 _ rfl,by rw [← add_field _ _ 2 (by omega)];exact hc 2 _ rfl,by rw [← add_field _ _ 3 (by omega)];exact hc 3 _ rfl,by rw [← add_field _ _ 4 (by omega)];exact hc 4 _ rfl,by rw [← add_field _ _ 5 (by omega)];exact hc 5 _ rfl,by rw [← add_field _ _ 6 (by omega)];exact hc 6 _ rfl,by rw [← add_field _ _ 7 (by omega)];exact hc 7 _ rfl,by rw [← add_field _ _ 8 (by omega)];exact hc 8 _ rfl,by rw [← add_field _ _ 9 (by omega)];exact hc 9 _ rfl⟩

def rd_L5 (xs:List (List S33)) (i:Int):(List S33):=xs.getD i.toNat ([]:List S33)
theorem at_L5 {w:World} {A:Option Addr} {n:Nat} {xs:List (List S33)} (h:Kd.C (Kd.slice 33 k33) w A n xs) (i:Int) (h0:0≤i) (h1:i < n) : ∃ ad A0 c0,A=some ad∧w.cell? (ad.add i.toNat)=some (.slice A0 (rd_L5 xs i).length c0)∧(rd_L5 xs i).length≤c0∧k33.C w A0 (rd_L5 xs i).length (rd_L5 xs i):=by
 obtain ⟨ad,c,e,_,hK,hc0⟩:=Kd.C_get h ([]:List S33) i h0 h1
 have hc : ∀ j u,c[j]?=some u→w.cell? (ad.add (i.toNat * 1 + j))=some u:=hc0
 obtain ⟨A0,c0,rfl,l0,g0⟩:=hK
 exact ⟨ad,A0,c0,e,by have hq:=hc 0 _ rfl;rwa [Nat.mul_one,Nat.add_zero] at hq,l0,g0⟩

def rd_L6 (xs:List (List Int)) (i:Int):(List Int):=xs.getD i.toNat ([]:List Int)
theorem at_L6 {w:World} {A:Option Addr} {n:Nat} {xs:List (List Int)} (h:Kd.C (Kd.slice 3 (Kd.int .i64)) w A n xs) (i:Int) (h0:0≤i) (h1:i < n) : ∃ ad A0 c0,A=some ad∧w.cell? (ad.add i.toNat)=some (.slice A0 (rd_L6 xs i).length c0)∧(rd_L6 xs i).length≤c0∧(Kd.int .i64).C w A0 (rd_L6 xs i).length (rd_L6 xs i):=by
 obtain ⟨ad,c,e,_,hK,hc0⟩:=Kd.C_get h ([]:List Int) i h0 h1
 have hc : ∀ j u,c[j]?=some u→w.cell? (ad.add (i.toNat * 1 + j))=some u:=hc0
 obtain ⟨A0,c0,rfl,l0,g0⟩:=hK
 exact ⟨ad,A0,c0,e,by have hq:=hc 0 _ rfl;rwa [Nat.mul_one,Nat.add_zero] at hq,l0,g0⟩

/-! #### struct type 39, nested in itself -/
structure S39 where
 f0:Int
 f1:Int
 f2:S35
 f3:(List S33)
 f4:Int
 f5:Int
 f6:(List Int)
 f7:Int
 f8:Int
 f9:(List S39)
def z39:S39:=⟨(0:Int),(0:Int),z35,([]:List S33),(0:Int),(0:Int),([]:List Int),(0:Int),(0:Int),([]:List S39)⟩
def F39 (d:Kd S39):Kd S39:=Kd.iso (Kd.pair (Kd.int .i64) (Kd.pair (Kd.int .i64) (Kd.pair k35 (Kd.pair (Kd.slice 33 k33) (Kd.pair (Kd.int .i64) (Kd.pair (Kd.int .i64) (Kd.pair (Kd.slice 3 (Kd.int .i64)) (Kd.pair (Kd.int .i64) (Kd.pair (Kd.int .i64) (Kd.slice 39 d)))))))))) (fun x:S39=>(x.f0,x.f1,x.f2,x.f3,x.f4,x.f5,x.f6,x.f7,x.f8,x.f9))
theorem mono39:Kd.Mono F39:=Kd.mono_iso _ (Kd.mono_pair (Kd.mono_const _) (Kd.mono_pair (Kd.mono_const _) (Kd.mono_pair (Kd.mono_const _) (Kd.mono_pair (Kd.mono_const _) (Kd.mono_pair (Kd.mono_const _) (Kd.mono_pair (Kd.mono_const _) (Kd.mono_pair (Kd.mono_const _) (Kd.mono_pair (Kd.mono_const _) (Kd.mono_pair (Kd.mono_const _) (Kd.mono_slice 39 Kd.mono_id))))))))))
theorem sub39:Kd.Sub F39 [3,33,39]:=Kd.sub_iso _ (Kd.sub_pair (Kd.sub_const _ (by decide)) (Kd.sub_pair (Kd.sub_const _ (by decide)) (Kd.sub_pair (Kd.sub_const _ (by decide)) (Kd.sub_pair (Kd.sub_const _ (by decide)) (Kd.sub_pair (Kd.sub_const _ (by decide)) (Kd.sub_pair (Kd.sub_const _ (by decide)) (Kd.sub_pair (Kd.sub_const _ (by decide)) (Kd.sub_pair (Kd.sub_const _ (by decide)) (Kd.sub_pair (Kd.sub_const _ (by decide)) (Kd.sub_slice 39 (by decide) Kd.sub_id))))))))))
theorem sz39 : ∀ n,(Kd.upto F39 19 [3,33,39] n).sz=19:=Kd.upto_sz (fun _=>rfl)
def k39:Kd S39:=Kd.fix F39 19 [3,33,39] sz39 (Kd.upto_E sub39)
theorem k39_open {w:World} {x:S39} {cs:List Value} (h:k39.K w x cs) : ∃ A12 c12 A15 c15 A18 c18,cs = [.int .i64 x.f0,.int .i64 x.f1,.int .i64 x.f2.f0,.bool x.f2.f1,.int .i64 x.f2.f2.f0,.int .i64 x.f2.f2.f1,.int .i64 x.f2.f2.f2,.int .i64 x.f2.f2.f3,.int .i64 x.f2.f3.f0,.int .i64 x.f2.f3.f1,.int .i64 x.f2.f3.f2,.int .i64 x.f2.f3.f3,.slice A12 x.f3.length c12,.int .i64 x.f4,.int .i64 x.f5,.slice A15 x.f6.length c15,.int .i64 x.f7,.int .i64 x.f8,.slice A18 x.f9.length c18]∧x.f3.length≤c12∧k33.C w A12 x.f3.length x.f3∧x.f6.length≤c15∧(Kd.int .i64).C w A15 x.f6.length x.f6∧x.f9.length≤c18∧k39.C w A18 x.f9.length x.f9:=by
 obtain ⟨n,h⟩:=h
 cases n with
 | zero=>exact h.elim
 | succ n =>
  obtain ⟨_,_,rfl,rfl,⟨_,_,rfl,rfl,⟨_,_,rfl,s2,⟨_,_,rfl,⟨A12,c12,rfl,l12,g12⟩,⟨_,_,rfl,rfl,⟨_,_,rfl,rfl,⟨_,_,rfl,⟨A15,c15,rfl,l15,g15⟩,⟨_,_,rfl,rfl,⟨_,_,rfl,rfl,⟨A18,c18,rfl,l18,g18⟩⟩⟩⟩⟩⟩⟩⟩⟩⟩:=h
  obtain rfl:=k35_open s2
  exact ⟨A12,c12,A15,c15,A18,c18,rfl,l12,g12,l15,g15,l18,Kd.fix_C g18⟩
theorem k39_openM {w:World} {base:Nat} {ok:Nat→Prop} {x:S39} {cs:List Value} (h:k39.M w base ok x cs) : ∃ v12 v15 v18,cs = [.int .i64 x.f0,.int .i64 x.f1,.int .i64 x.f2.f0,.bool x.f2.f1,.int .i64 x.f2.f2.f0,.int .i64 x.f2.f2.f1,.int .i64 x.f2.f2.f2,.int .i64 x.f2.f2.f3,.int .i64 x.f2.f3.f0,.int .i64 x.f2.f3.f1,.int .i64 x.f2.f3.f2,.int .i64 x.f2.f3.f3,v12,.int .i64 x.f4,.int .i64 x.f5,v15,.int .i64 x.f7,.int .i64 x.f8,v18]∧k33.R 33 w base ok v12 x.f3∧(Kd.int .i64).R 3 w base ok v15 x.f6∧k39.R 39 w base ok v18 x.f9:=by
 obtain ⟨n,h⟩:=h
 cases n with
 | zero=>exact h.elim
 | succ n =>
  obtain ⟨_,_,rfl,rfl,⟨_,_,rfl,rfl,⟨_,_,rfl,s2,⟨_,_,rfl,⟨v12,rfl,g12⟩,⟨_,_,rfl,rfl,⟨_,_,rfl,rfl,⟨_,_,rfl,⟨v15,rfl,g15⟩,⟨_,_,rfl,rfl,⟨_,_,rfl,rfl,⟨v18,rfl,g18⟩⟩⟩⟩⟩⟩⟩⟩⟩⟩:=h
  obtain rfl:=k35_openM s2
  exact ⟨v12,v15,v18,rfl,g12,g15,Kd.fix_R g18⟩
theorem k39_mk (w:World) (x:S39) {A12:Option Addr} {c12:Nat} (l12:x.f3.length≤c12) (g12:k33.C w A12 x.f3.length x.f3) {A15:Option Addr} {c15:Nat} (l15:x.f6.length≤c15) (g15:(Kd.int .i64).C w A15 x.f6.length x.f6) {A18:Option Addr} {c18:Nat} (l18:x.f9.length≤c18) (g18:k39.C w A18 x.f9.length x.f9):k39.K w x [.int .i64 x.f0,.int .i64 x.f1,.int .i64 x.f2.f0,.bool x.f2.f1,.int .i64 x.f2.f2.f0,.int .i64 x.f2.f2.f1,.int .i64 x.f2.f2.f2,.int .i64 x.f2.f2.f3,.int .i64 x.f2.f3.f0,.int .i64 x.f2.f3.f1,.int .i64 x.f2.f3.f2,.int .i64 x.f2.f3.f3,.slice A12 x.f3.length c12,.int .i64 x.f4,.int .i64 x.f5,.slice A15 x.f6.length c15,.int .i64 x.f7,.int .i64 x.f8,.slice A18 x.f9.length c18]:=by
 obtain ⟨n18,q18⟩:=Kd.fix_C_back mono39 g18
 have r18:=Kd.upto_C_le mono39 sz39 (show n18≤n18 by omega) q18
 exact ⟨n18 + 1,⟨[.int .i64 x.f0],[.int .i64 x.f1,.int .i64 x.f2.f0,.bool x.f2.f1,.int .i64 x.f2.f2.f0,.int .i64 x.f2.f2.f1,.int .i64 x.f2.f2.f2,.int .i64 x.f2.f2.f3,.int .i64 x.f2.f3.f0,.int .i64 x.f2.f3.f1,.int .i64 x.f2.f3.f2,.int .i64 x.f2.f3.f3,.slice A12 x.f3.length c12,.int .i64 x.f4,.int .i64 x.f5,.slice A15 x.f6.length c15,.int .i64 x.f7,.int .i64 x.f8,.slice A18 x.f9.length c18],rfl,rfl,⟨[.int .i64 x.f1],[.int .i64 x.f2.f0,.bool x.f2.f1,.int .i64 x.f2.f2.f0,.int .i64 x.f2.f2.f1,.int .i64 x.f2.f2.f2,.int .i64 x.f2.f2.f3,.int .i64 x.f2.f3.f0,.int .i64 x.f2.f3.f1,.int .i64 x.f2.f3.f2,.int .i64 x.f2.f3.f3,.slice A12 x.f3.length c12,.int .i64 x.f4,.int .i64 x.f5,.slice A15 x.f6.length c15,.int .i64 x.f7,.int .i64 x.f8,.slice A18 x.f9.length c18],rfl,rfl,⟨[.int .i64 x.f2.f0,.bool x.f2.f1,.int .i64 x.f2.f2.f0,.int .i64 x.f2.f2.f1,.int .i64 x.f2.f2.f2,.int .i64 x.f2.f2.f3,.int .i64 x.f2.f3.f0,.int .i64 x.f2.f3.f1,.int .i64 x.f2.f3.f2,.int .i64 x.f2.f3.f3],[.slice A12 x.f3.length c12,.int .i64 x.f4,.int .i64 x.f5,.slice A15 x.f6.length c15,.int .i64 x.f7,.int .i64 x.f8,.slice A18 x.f9.length c18],rfl,(k35_mk w x.f2 ),⟨[.slice A12 x.f3.length c12],[.int .i64 x.f4,.int .i64 x.f5,.slice A15 x.f6.length c15,.int .i64 x.f7,.int .i64 x.f8,.slice A18 x.f9.length c18],rfl,⟨A12,c12,rfl,l12,g12⟩,⟨[.int .i64 x.f4],[.int .i64 x.f5,.slice A15 x.f6.length c15,.int .i64 x.f7,.int .i64 x.f8,.slice A18 x.f9.length c18],rfl,rfl,⟨[.int .i64 x.f5],[.slice A15 x.f6.length c15,.int .i64 x.f7,.int .i64 x.f8,.slice A18 x.f9.length c18],rfl,rfl,⟨[.slice A15 x.f6.length c15],[.int .i64 x.f7,.int .i64 x.f8,.slice A18 x.f9.length c18],rfl,⟨A15,c15,rfl,l15,g15⟩,⟨[.int .i64 x.f7],[.int .i64 x.f8,.slice A18 x.f9.length c18],rfl,rfl,⟨[.int .i64 x.f8],[.slice A18 x.f9.length c18],rfl,rfl,⟨A18,c18,rfl,l18,r18⟩⟩⟩⟩⟩⟩⟩⟩⟩⟩⟩
theorem k39_mkM (w:World) (base:Nat) (ok:Nat→Prop) (x:S39) {v12:Value} (g12:k33.R 33 w base ok v12 x.f3) {v15:Value} (g15:(Kd.int .i64).R 3 w base ok v15 x.f6) {v18:Value} (g18:k39.R 39 w base ok v18 x.f9):k39.M w base ok x [.int .i64 x.f0,.int .i64 x.f1,.int .i64 x.f2.f0,.bool x.f2.f1,.int .i64 x.f2.f2.f0,.int .i64 x.f2.f2.f1,.int .i64 x.f2.f2.f2,.int .i64 x.f2.f2.f3,.int .i64 x.f2.f3.f0,.int .i64 x.f2.f3.f1,.int .i64 x.f2.f3.f2,.int .i64 x.f2.f3.f3,v12,.int .i64 x.f4,.int .i64 x.f5,v15,.int .i64 x.f7,.int .i64 x.f8,v18]:=by
 obtain ⟨n18,q18⟩:=Kd.fix_R_back mono39 g18
 have r18:=Kd.upto_R_le mono39 sz39 (show n18≤n18 by omega) q18
 exact ⟨n18 + 1,⟨[.int .i64 x.f0],[.int .i64 x.f1,.int .i64 x.f2.f0,.bool x.f2.f1,.int .i64 x.f2.f2.f0,.int .i64 x.f2.f2.f1,.int .i64 x.f2.f2.f2,.int .i64 x.f2.f2.f3,.int .i64 x.f2.f3.f0,.int .i64 x.f2.f3.f1,.int .i64 x.f2.f3.f2,.int .i64 x.f2.f3.f3,v12,.int .i64 x.f4,.int .i64 x.f5,v15,.int .i64 x.f7,.int .i64 x.f8,v18],rfl,rfl,⟨[.int .i64 x.f1],[.int .i64 x.f2.f0,.bool x.f2.f1,.int .i64 x.f2.f2.f0,.int .i64 x.f2.f2.f1,.int .i64 x.f2.f2.f2,.int .i64 x.f2.f2.f3,.int .i64 x.f2.f3.f0,.int .i64 x.f2.f3.f1,.int .i64 x.f2.f3.f2,.int .i64 x.f2.f3.f3,v12,.int .i64 x.f4,.int .i64 x.f5,v15,.int .i64 x.f7,.int .i64 x.f8,v18],rfl,rfl,⟨[.int .i64 x.f2.f0,.bool x.f2.f1,.int .i64 x.f2.f2.f0,.int .i64 x.f2.f2.f1,.int .i64 x.f2.f2.f2,.int .i64 x.f2.f2.f3,.int .i64 x.f2.f3.f0,.int .i64 x.f2.f3.f1,.int .i64 x.f2.f3.f2,.int .i64 x.f2.f3.f3],[v12,.int .i64 x.f4,.int .i64 x.f5,v15,.int .i64 x.f7,.int .i64 x.f8,v18],rfl,(k35_mkM w base ok x.f2 ),⟨[v12],[.int .i64 x.f4,.int .i64 x.f5,v15,.int .i64 x.f7,.int .i64 x.f8,v18],rfl,⟨v12,rfl,g12⟩,⟨[.int .i64 x.f4],[.int .i64 x.f5,v15,.int .i64 x.f7,.int .i64 x.f8,v18],rfl,rfl,⟨[.int .i64 x.f5],[v15,.int .i64 x.f7,.int .i64 x.f8,v18],rfl,rfl,⟨[v15],[.int .i64 x.f7,.int .i64 x.f8,v18],rfl,⟨v15,rfl,g15⟩,⟨[.int .i64 x.f7],[.int .i64 x.f8,v18],rfl,rfl,⟨[.int .i64 x.f8],[v18],rfl,rfl,⟨v18,rfl,r18⟩⟩⟩⟩⟩⟩⟩⟩⟩⟩⟩
def rd_T39 (xs:List S39) (i:Int):S39:=xs.getD i.toNat z39
theorem at_T39 {w:World} {A:Option Addr} {n:Nat} {xs:List S39} (h:Kd.C k39 w A n xs) (i:Int) (h0:0≤i) (h1:i < n) : ∃ ad A12 c12 A15 c15 A18 c18,A=some ad∧w.cell? (ad.add (i.toNat * 19))=some (.int .i64 (rd_T39 xs i).f0)∧w.cell? ⟨(ad.add (i.toNat * 19)).block,(ad.add (i.toNat * 19)).off + 1,none⟩=some (.int .i64 (rd_T39 xs i).f1)∧w.cell? ⟨(ad.add (i.toNat * 19)).block,(ad.add (i.toNat * 19)).off + 2,none⟩=some (.int .i64 (rd_T39 xs i).f2.f0)∧w.cell? ⟨(ad.add (i.toNat * 19)).block,(ad.add (i.toNat * 19)).off + 3,none⟩=some (.bool (rd_T39 xs i).f2.f1)∧w.cell? ⟨(ad.add (i.toNat * 19)).block,(ad.add (i.toNat * 19)).off + 4,none⟩=some (.int .i64 (rd_T39 xs i).f2.f2.f0)∧w.cell? ⟨(ad.add (i.toNat * 19)).block,(ad.add (i.toNat * 19)).off + 5,none⟩=some (.int .i64 (rd_T39 xs i).f2.f2.f1)∧w.cell? ⟨(ad.add (i.toNat * 19)).block,(ad.add (i.toNat * 19)).off + 6,none⟩=some (.int .i64 (rd_T39 xs i).f2.f2.f2)∧w.cell? ⟨(ad.add (i.toNat * 19)).block,(ad.add (i.toNat * 19)).off + 7,none⟩=some (.int .i64 (rd_T39 xs i).f2.f2.f3)∧w.cell? ⟨(ad.add (i.toNat * 19)).block,(ad.add (i.toNat * 19)).off + 8,none⟩=some (.int .i64 (rd_T39 xs i).f2.f3.f0)∧w.cell? ⟨(ad.add (i.toNat * 19)).block,(ad.add (i.toNat * 19)).off + 9,none⟩=some (.int .i64 (rd_T39 xs i).f2.f3.f1)∧w.cell? ⟨(ad.add (i.toNat * 19)).block,(ad.add (i.toNat * 19)).off + 10,none⟩=some (.int .i64 (rd_T39 xs i).f2.f3.f2)∧w.cell? ⟨(ad.add (i.toNat * 19)).block,(ad.add (i.toNat * 19)).off + 11,none⟩=some (.int .i64 (rd_T39 xs i).f2.f3.f3)∧w.cell? ⟨(ad.add (i.toNat * 19)).block,(ad.add (i.toNat * 19)).off + 12,none⟩=some (.slice A12 (rd_T39 xs i).f3.length c12)∧w.cell? ⟨(ad.add (i.toNat * 19)).block,(ad.add (i.toNat * 19)).off + 13,none⟩=some (.int .i64 (rd_T39 xs i).f4)∧w.cell? ⟨(ad.add (i.toNat * 19)).block,(ad.add (i.toNat * 19)).off + 14,none⟩=some (.int .i64 (rd_T39 xs i).f5)∧w.cell? ⟨(ad.add (i.toNat * 19)).block,(ad.add (i.toNat * 19)).off + 15,none⟩=some (.slice A15 (rd_T39 xs i).f6.length c15)∧w.cell? ⟨(ad.add (i.toNat * 19)).block,(ad.add (i.toNat * 19)).off + 16,none⟩=some (.int .i64 (rd_T39 xs i).f7)∧w.cell? ⟨(ad.add (i.toNat * 19)).block,(ad.add (i.toNat * 19)).off + 17,none⟩=some (.int .i64 (rd_T39 xs i).f8)∧w.cell? ⟨(ad.add (i.toNat * 19)).block,(ad.add (i.toNat * 19)).off + 18,none⟩=some (.slice A18 (rd_T39 xs i).f9.length c18)∧(rd_T39 xs i).f3.length≤c12∧k33.C w A12 (rd_T39 xs i).f3.length (rd_T39 xs i).f3∧(rd_T39 xs i).f6.length≤c15∧(Kd.int .i64).C w A15 (rd_T39 xs i).f6.length (rd_T39 xs i).f6∧(rd_T39 xs i).f9.length≤c18∧k39.C w A18 (rd_T39 xs i).f9.length (rd_T39 xs i).f9:=by
 obtain ⟨ad,c,e,_,hK,hc0⟩:=Kd.C_get h z39 i h0 h1
 have hc : ∀ j u,c[j]?=some u→w.cell? (ad.add (i.toNat * 19 + j))=some u:=hc0
 obtain ⟨A12,c12,A15,c15,A18,c18,rfl,l12,g12,l15,g15,l18,g18⟩:=k39_open hK
 exact ⟨ad,A12,c12,A15,c15,A18,c18,e,hc 0 _ rfl,by rw [← add_field _ _ 1 (by omega)];exact hc 1 _ rfl,by rw [← add_field _ _ 2 (by omega)];exact hc 2 _ rfl,by rw [← add_field _ _ 3 (by omega)];exact hc 3 _ rfl,by rw [← add_field _ _ 4 (by omega)];exact hc 4 _ rfl,by rw [← add_field _ _ 5 (by omega)];exact hc 5 _ rfl,by rw [← add_field _ _ 6 (by omega)];exact hc 6 _ rfl,by rw [← add_field _ _ 7 (by omega)];exact hc 7 _ rfl,by rw [← add_field _ _ 8 (by omega)];exact hc 8 _ rfl,by rw [← add_field _ _ 9 (by omega)];exact hc 9 _ rfl,by rw [← add_field _ _ 10 (by omega)];exact hc 10 _ rfl,by rw [← add_field _ _ 11 (by omega)];exact hc 11 _ rfl,by rw [← add_field _ _ 12 (by omega)];exact hc 12 _ rfl,by rw [← add_field _ _ 13 (by omega)];exact hc 13 _ rfl,by rw [← add_field _ _ 14 (by omega)];exact hc 14 _ rfl,by rw [← add_field _ _ 15 (by omega)];exact hc 15 _ rfl,by rw [← add_field _ _ 16 (by omega)];exact hc 16 _ rfl,by rw [← add_field _ _ 17 (by omega)];exact hc 17 _ rfl,by rw [← add_field _ _ 18 (by omega)];exact hc 18 _ rfl,l12,g12,l15,g15,l18,g18⟩

end Go.Proofs.YtlpgnkndjmfcjaaGreat.PFnPlanUses
