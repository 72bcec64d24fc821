/-
  NARROWER THAN 'FOR EVERY INPUT', by the rows' own cells (each row's printed sentence says how): FnExactPlanSame: loops · FnExactPlanWide: loops.
  DERIVED. THE GIVEN ROWS OF THIS SEAT. 3 by the template 'for every input the law returns true; each argument reads behind the call as it read before'; 0 by the template 'total and deterministic' (their statements: YtlpgnkndjmfcjaaTotals.lean).
  GIVEN WITH THE SEED: the statements are not yours to turn. If you find one false, say at which input.
  Laid BY PROGRAM, IN A SANDBOX (cutbox-rows.mjs): the forced cells as the released guide's own fill.sh prints them over the translation 1cc1c94a1463871f… (all of the seat's roots in one cut). By AI agents, Wed Nov 11 2026. No macro, syntax, notation, axiom, sorry.
-/
import Derived.Test.YtlpgnkndjmfcjaaChecked
import GoSem.Claim
import GoSem.ClaimJoined
import GoSem.ClaimMapViews
import Derived.JoinedTies
import Derived.KernelRfl
namespace Go.Proofs.Ytlpgnkndjmfcjaa
/- THE CELL 'sum', in the pinned program and in every row, IS THE sha256 OF THE DUMP (.gsa) THAT YtlpgnkndjmfcjaaProg.lean LOADS. Nothing in Lean hashes anything: it is a label: what it is worth is what the hold of that sum in a sandbox is worth. -/
noncomputable def Try.pinned : Pinned := { name := "ytlpgnkndjmfcjaa", sum := "1cc1c94a1463871f04f2c14122dd1edf93f2b636ff1c1352ad5ee49a2cb8863d", checked := Try.checked }
namespace Rows
def none {H : Type} : Left H := { results := [], args := [] }

/-- 'laws.FnExactPlanSame': WHATEVER THE INPUT: true; the input reads as it did. -/
def fnExactPlanSameSpec : ChangeSpec := { name := "fnExactPlanSame", fn := fun _ => fun
  | [d1, d2] => { results := [.lit (.bool true)], args := [d1, d2] }
  | _ => none }
def fnExactPlanSameRow : OpenClaim := { program := "ytlpgnkndjmfcjaa", sum := "1cc1c94a1463871f04f2c14122dd1edf93f2b636ff1c1352ad5ee49a2cb8863d", func := "loop.example/milldam/laws.FnExactPlanSame", spec := "fnExactPlanSame", unfollowed := true, recurses := true, loops := true, apart := false }
def FnExactPlanSameSaid : Prop := fnExactPlanSameRow.holds Try.pinned (OpenSpec.ofChange fnExactPlanSameSpec)

/-- ITS FALSE NEIGHBOUR: 'it returns false'. Refute it at one input. -/
def fnExactPlanSameWrong : ChangeSpec := { name := "fnExactPlanSame", fn := fun _ => fun
  | [d1, d2] => { results := [.lit (.bool false)], args := [d1, d2] }
  | _ => none }
def FnExactPlanSameWrongFalsely : Prop := fnExactPlanSameRow.holds Try.pinned (OpenSpec.ofChange fnExactPlanSameWrong)

/-- 'laws.FnPlanKids': WHATEVER THE INPUT: true; the input reads as it did. -/
def fnPlanKidsSpec : ChangeSpec := { name := "fnPlanKids", fn := fun _ => fun
  | [d] => { results := [.lit (.bool true)], args := [d] }
  | _ => none }
def fnPlanKidsRow : OpenClaim := { program := "ytlpgnkndjmfcjaa", sum := "1cc1c94a1463871f04f2c14122dd1edf93f2b636ff1c1352ad5ee49a2cb8863d", func := "loop.example/milldam/laws.FnPlanKids", spec := "fnPlanKids", unfollowed := true, recurses := true, apart := false }
def FnPlanKidsSaid : Prop := fnPlanKidsRow.holds Try.pinned (OpenSpec.ofChange fnPlanKidsSpec)

/-- ITS FALSE NEIGHBOUR: 'it returns false'. Refute it at one input. -/
def fnPlanKidsWrong : ChangeSpec := { name := "fnPlanKids", fn := fun _ => fun
  | [d] => { results := [.lit (.bool false)], args := [d] }
  | _ => none }
def FnPlanKidsWrongFalsely : Prop := fnPlanKidsRow.holds Try.pinned (OpenSpec.ofChange fnPlanKidsWrong)

/-- 'laws.FnExactPlanWide': WHATEVER THE INPUT: true; the input reads as it did. -/
def fnExactPlanWideSpec : ChangeSpec := { name := "fnExactPlanWide", fn := fun _ => fun
  | [d1, d2] => { results := [.lit (.bool true)], args := [d1, d2] }
  | _ => none }
def fnExactPlanWideRow : OpenClaim := { program := "ytlpgnkndjmfcjaa", sum := "1cc1c94a1463871f04f2c14122dd1edf93f2b636ff1c1352ad5ee49a2cb8863d", func := "loop.example/milldam/laws.FnExactPlanWide", spec := "fnExactPlanWide", unfollowed := true, recurses := true, loops := true, apart := false }
def FnExactPlanWideSaid : Prop := fnExactPlanWideRow.holds Try.pinned (OpenSpec.ofChange fnExactPlanWideSpec)

/-- ITS FALSE NEIGHBOUR: 'it returns false'. Refute it at one input. -/
def fnExactPlanWideWrong : ChangeSpec := { name := "fnExactPlanWide", fn := fun _ => fun
  | [d1, d2] => { results := [.lit (.bool false)], args := [d1, d2] }
  | _ => none }
def FnExactPlanWideWrongFalsely : Prop := fnExactPlanWideRow.holds Try.pinned (OpenSpec.ofChange fnExactPlanWideWrong)

/- THE SECOND FORM. 'bulk': how many values and letters a reading holds, each counted each time it is reached (what is shared counts as often as it is met; a slice's spare places count too). A statement '..UptoSaid' is the law's where the arguments, and the package variables that the reading takes, are together of bulk at most 1048576: NARROWER than '..Said'. Prove '..Said' where nothing that the law and all that it calls make is longer than what came in: it says more and counts as full. Else prove '..UptoSaid'. A law counts once. -/
mutual
def uptoBulk {H : Type} : DataW H → Nat
  | .lit (.string bytes) => bytes.length + 1
  | .lit _ => 1
  | .nil => 1
  | .ptr d => uptoBulk d + 1
  | .slice elems spare => uptoBulkAll elems + uptoBulkAll spare + 1
  | .agg parts => uptoBulkAll parts + 1
  | .iface _ d => uptoBulk d + 1
  | .map entries => uptoBulkEntries entries + 1
  | .held _ => 1
def uptoBulkAll {H : Type} : List (DataW H) → Nat
  | [] => 0
  | d :: r => uptoBulk d + uptoBulkAll r
def uptoBulkEntries {H : Type} : List (Lit × DataW H) → Nat
  | [] => 0
  | x :: r => uptoBulkEntry x + uptoBulkEntries r
def uptoBulkEntry {H : Type} : Lit × DataW H → Nat
  | (.string bytes, d) => bytes.length + uptoBulk d + 1
  | (_, d) => uptoBulk d + 1
 end
def uptoSmall : (H : Type) → List (DataW H) → Bool := fun _ ds => decide (uptoBulkAll ds ≤ 1048576)
def OpenSpec.upto (s : _root_.Go.ChangeSpec) : _root_.Go.OpenSpec := { _root_.Go.OpenSpec.ofChange s with cond := some uptoSmall }

/-- 'laws.FnExactPlanSame', WHERE WHAT IT READS IS OF BULK AT MOST 1048576: true; the input reads as it did. -/
def fnExactPlanSameUptoRow : OpenClaim := { program := "ytlpgnkndjmfcjaa", sum := "1cc1c94a1463871f04f2c14122dd1edf93f2b636ff1c1352ad5ee49a2cb8863d", func := "loop.example/milldam/laws.FnExactPlanSame", spec := "fnExactPlanSame", unfollowed := true, recurses := true, loops := true, apart := false, narrowed := true }
def FnExactPlanSameUptoSaid : Prop := fnExactPlanSameUptoRow.holds Try.pinned (OpenSpec.upto fnExactPlanSameSpec)

/-- 'laws.FnPlanKids', WHERE WHAT IT READS IS OF BULK AT MOST 1048576: true; the input reads as it did. -/
def fnPlanKidsUptoRow : OpenClaim := { program := "ytlpgnkndjmfcjaa", sum := "1cc1c94a1463871f04f2c14122dd1edf93f2b636ff1c1352ad5ee49a2cb8863d", func := "loop.example/milldam/laws.FnPlanKids", spec := "fnPlanKids", unfollowed := true, recurses := true, apart := false, narrowed := true }
def FnPlanKidsUptoSaid : Prop := fnPlanKidsUptoRow.holds Try.pinned (OpenSpec.upto fnPlanKidsSpec)

/-- 'laws.FnExactPlanWide', WHERE WHAT IT READS IS OF BULK AT MOST 1048576: true; the input reads as it did. -/
def fnExactPlanWideUptoRow : OpenClaim := { program := "ytlpgnkndjmfcjaa", sum := "1cc1c94a1463871f04f2c14122dd1edf93f2b636ff1c1352ad5ee49a2cb8863d", func := "loop.example/milldam/laws.FnExactPlanWide", spec := "fnExactPlanWide", unfollowed := true, recurses := true, loops := true, apart := false, narrowed := true }
def FnExactPlanWideUptoSaid : Prop := fnExactPlanWideUptoRow.holds Try.pinned (OpenSpec.upto fnExactPlanWideSpec)

end Rows
end Go.Proofs.Ytlpgnkndjmfcjaa
