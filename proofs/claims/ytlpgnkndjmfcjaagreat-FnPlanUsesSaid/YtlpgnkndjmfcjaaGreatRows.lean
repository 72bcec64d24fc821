/-
  NARROWER THAN 'FOR EVERY INPUT', by the rows' own cells (each row's printed sentence says how): FnExactPlanMany: loops · FnExactPlanUses: loops.
  DERIVED. THE GIVEN ROWS OF THIS SEAT. 3 by the template 'for every input the law returns true; each argument reads behind the call as it read before'; 0 by the template 'total and deterministic' (their statements: YtlpgnkndjmfcjaaGreatTotals.lean).
  GIVEN WITH THE SEED: the statements are not yours to turn. If you find one false, say at which input.
  Laid BY PROGRAM, IN A SANDBOX (cutbox-rows.mjs): the forced cells as the released guide's own fill.sh prints them over the translation b658410585abfcd3… (all of the seat's roots in one cut). By AI agents, Wed Nov 11 2026. No macro, syntax, notation, axiom, sorry.
-/
import Derived.Test.YtlpgnkndjmfcjaaGreatChecked
import GoSem.Claim
import GoSem.ClaimJoined
import GoSem.ClaimMapViews
import Derived.JoinedTies
import Derived.KernelRfl
namespace Go.Proofs.YtlpgnkndjmfcjaaGreat
/- THE CELL 'sum', in the pinned program and in every row, IS THE sha256 OF THE DUMP (.gsa) THAT YtlpgnkndjmfcjaaGreatProg.lean LOADS. Nothing in Lean hashes anything: it is a label: what it is worth is what the hold of that sum in a sandbox is worth. -/
noncomputable def Tryz.pinned : Pinned := { name := "ytlpgnkndjmfcjaagreat", sum := "b658410585abfcd3f69b1c51f7f9db4378e564c5899dea35a1a3132ddbe2958f", checked := Tryz.checked }
namespace Rows
def none {H : Type} : Left H := { results := [], args := [] }

/-- 'laws.FnExactPlanMany': WHATEVER THE INPUT: true; the input reads as it did. -/
def fnExactPlanManySpec : ChangeSpec := { name := "fnExactPlanMany", fn := fun _ => fun
  | [d] => { results := [.lit (.bool true)], args := [d] }
  | _ => none }
def fnExactPlanManyRow : OpenClaim := { program := "ytlpgnkndjmfcjaagreat", sum := "b658410585abfcd3f69b1c51f7f9db4378e564c5899dea35a1a3132ddbe2958f", func := "loop.example/milldam/laws.FnExactPlanMany", spec := "fnExactPlanMany", unfollowed := true, recurses := true, loops := true, apart := false }
def FnExactPlanManySaid : Prop := fnExactPlanManyRow.holds Tryz.pinned (OpenSpec.ofChange fnExactPlanManySpec)

/-- ITS FALSE NEIGHBOUR: 'it returns false'. Refute it at one input. -/
def fnExactPlanManyWrong : ChangeSpec := { name := "fnExactPlanMany", fn := fun _ => fun
  | [d] => { results := [.lit (.bool false)], args := [d] }
  | _ => none }
def FnExactPlanManyWrongFalsely : Prop := fnExactPlanManyRow.holds Tryz.pinned (OpenSpec.ofChange fnExactPlanManyWrong)

/-- 'laws.FnExactPlanUses': WHATEVER THE INPUT: true; the input reads as it did. -/
def fnExactPlanUsesSpec : ChangeSpec := { name := "fnExactPlanUses", fn := fun _ => fun
  | [d1, d2] => { results := [.lit (.bool true)], args := [d1, d2] }
  | _ => none }
def fnExactPlanUsesRow : OpenClaim := { program := "ytlpgnkndjmfcjaagreat", sum := "b658410585abfcd3f69b1c51f7f9db4378e564c5899dea35a1a3132ddbe2958f", func := "loop.example/milldam/laws.FnExactPlanUses", spec := "fnExactPlanUses", unfollowed := true, recurses := true, loops := true, apart := false }
def FnExactPlanUsesSaid : Prop := fnExactPlanUsesRow.holds Tryz.pinned (OpenSpec.ofChange fnExactPlanUsesSpec)

/-- ITS FALSE NEIGHBOUR: 'it returns false'. Refute it at one input. -/
def fnExactPlanUsesWrong : ChangeSpec := { name := "fnExactPlanUses", fn := fun _ => fun
  | [d1, d2] => { results := [.lit (.bool false)], args := [d1, d2] }
  | _ => none }
def FnExactPlanUsesWrongFalsely : Prop := fnExactPlanUsesRow.holds Tryz.pinned (OpenSpec.ofChange fnExactPlanUsesWrong)

/-- 'laws.FnPlanUses': WHATEVER THE INPUT: true; the input reads as it did. -/
def fnPlanUsesSpec : ChangeSpec := { name := "fnPlanUses", fn := fun _ => fun
  | [d] => { results := [.lit (.bool true)], args := [d] }
  | _ => none }
def fnPlanUsesRow : OpenClaim := { program := "ytlpgnkndjmfcjaagreat", sum := "b658410585abfcd3f69b1c51f7f9db4378e564c5899dea35a1a3132ddbe2958f", func := "loop.example/milldam/laws.FnPlanUses", spec := "fnPlanUses", unfollowed := true, recurses := true, apart := false }
def FnPlanUsesSaid : Prop := fnPlanUsesRow.holds Tryz.pinned (OpenSpec.ofChange fnPlanUsesSpec)

/-- ITS FALSE NEIGHBOUR: 'it returns false'. Refute it at one input. -/
def fnPlanUsesWrong : ChangeSpec := { name := "fnPlanUses", fn := fun _ => fun
  | [d] => { results := [.lit (.bool false)], args := [d] }
  | _ => none }
def FnPlanUsesWrongFalsely : Prop := fnPlanUsesRow.holds Tryz.pinned (OpenSpec.ofChange fnPlanUsesWrong)

/- THE SECOND FORM. 'bulk': how many values and letters a reading holds, each counted each time it is reached (what is shared counts as often as it is met; a slice's spare places count too). A statement '..UptoSaid' is the law's where the arguments, and the package variables that the reading takes, are together of bulk at most 1048576: NARROWER than '..Said'. Prove '..Said' where nothing that the law and all that it calls make is longer than what came in: it says more and counts as full. Else prove '..UptoSaid'. A law counts once. -/
mutual
def uptoBulk {H : Type} : DataW H → Nat
  | .lit (.string bytes) => bytes.length + 1
  | .lit _ => 1
  | .nil => 1
  | .ptr d => uptoBulk d + 1
  | .slice elems spare => uptoBulkAll elems + uptoBulkAll spare + 1
  | .agg parts => uptoBulkAll parts + 1
  | .iface _ d => uptoBulk d + 1
  | .map entries => uptoBulkEntries entries + 1
  | .held _ => 1
def uptoBulkAll {H : Type} : List (DataW H) → Nat
  | [] => 0
  | d :: r => uptoBulk d + uptoBulkAll r
def uptoBulkEntries {H : Type} : List (Lit × DataW H) → Nat
  | [] => 0
  | x :: r => uptoBulkEntry x + uptoBulkEntries r
def uptoBulkEntry {H : Type} : Lit × DataW H → Nat
  | (.string bytes, d) => bytes.length + uptoBulk d + 1
  | (_, d) => uptoBulk d + 1
 end
def uptoSmall : (H : Type) → List (DataW H) → Bool := fun _ ds => decide (uptoBulkAll ds ≤ 1048576)
def OpenSpec.upto (s : _root_.Go.ChangeSpec) : _root_.Go.OpenSpec := { _root_.Go.OpenSpec.ofChange s with cond := some uptoSmall }

/-- 'laws.FnExactPlanMany', WHERE WHAT IT READS IS OF BULK AT MOST 1048576: true; the input reads as it did. -/
def fnExactPlanManyUptoRow : OpenClaim := { program := "ytlpgnkndjmfcjaagreat", sum := "b658410585abfcd3f69b1c51f7f9db4378e564c5899dea35a1a3132ddbe2958f", func := "loop.example/milldam/laws.FnExactPlanMany", spec := "fnExactPlanMany", unfollowed := true, recurses := true, loops := true, apart := false, narrowed := true }
def FnExactPlanManyUptoSaid : Prop := fnExactPlanManyUptoRow.holds Tryz.pinned (OpenSpec.upto fnExactPlanManySpec)

/-- 'laws.FnExactPlanUses', WHERE WHAT IT READS IS OF BULK AT MOST 1048576: true; the input reads as it did. -/
def fnExactPlanUsesUptoRow : OpenClaim := { program := "ytlpgnkndjmfcjaagreat", sum := "b658410585abfcd3f69b1c51f7f9db4378e564c5899dea35a1a3132ddbe2958f", func := "loop.example/milldam/laws.FnExactPlanUses", spec := "fnExactPlanUses", unfollowed := true, recurses := true, loops := true, apart := false, narrowed := true }
def FnExactPlanUsesUptoSaid : Prop := fnExactPlanUsesUptoRow.holds Tryz.pinned (OpenSpec.upto fnExactPlanUsesSpec)

/-- 'laws.FnPlanUses', WHERE WHAT IT READS IS OF BULK AT MOST 1048576: true; the input reads as it did. -/
def fnPlanUsesUptoRow : OpenClaim := { program := "ytlpgnkndjmfcjaagreat", sum := "b658410585abfcd3f69b1c51f7f9db4378e564c5899dea35a1a3132ddbe2958f", func := "loop.example/milldam/laws.FnPlanUses", spec := "fnPlanUses", unfollowed := true, recurses := true, apart := false, narrowed := true }
def FnPlanUsesUptoSaid : Prop := fnPlanUsesUptoRow.holds Tryz.pinned (OpenSpec.upto fnPlanUsesSpec)

end Rows
end Go.Proofs.YtlpgnkndjmfcjaaGreat
