/-
  NARROWER THAN 'FOR EVERY INPUT', by the rows' own cells (each row's printed sentence says how): FnExactPlanWide: loops.
  DERIVED. THE GIVEN ROWS OF THIS SEAT. 8 by the template 'for every input the law returns true; each argument reads behind the call as it read before'; 0 by the template 'total and deterministic' (their statements: YtaifnkapbffmaaaTotals.lean).
  GIVEN WITH THE SEED: the statements are not yours to turn. If you find one false, say at which input.
  Laid BY PROGRAM, IN A SANDBOX (cutbox-rows.mjs): the forced cells as the released guide's own fill.sh prints them over the translation e00ce841cd112bc9… (all of the seat's roots in one cut). By AI agents, Wed Nov 11 2026. No macro, syntax, notation, axiom, sorry.
-/
import Derived.Test.YtaifnkapbffmaaaChecked
import GoSem.Claim
import GoSem.ClaimJoined
import GoSem.ClaimMapViews
import Derived.JoinedTies
import Derived.KernelRfl
namespace Go.Proofs.Ytaifnkapbffmaaa
/- THE CELL 'sum', in the pinned program and in every row, IS THE sha256 OF THE DUMP (.gsa) THAT YtaifnkapbffmaaaProg.lean LOADS. Nothing in Lean hashes anything: it is a label: what it is worth is what the hold of that sum in a sandbox is worth. -/
noncomputable def Try.pinned : Pinned := { name := "ytaifnkapbffmaaa", sum := "e00ce841cd112bc9d7155be8b0cbd71e42b5bc5acbe057a38681d949353eea28", checked := Try.checked }
namespace Rows
def none {H : Type} : Left H := { results := [], args := [] }

/-- 'laws.FnExactZAdd': WHATEVER THE INPUT: true; the input reads as it did. -/
def fnExactZAddSpec : ChangeSpec := { name := "fnExactZAdd", fn := fun _ => fun
  | [d1, d2] => { results := [.lit (.bool true)], args := [d1, d2] }
  | _ => none }
def fnExactZAddRow : OpenClaim := { program := "ytaifnkapbffmaaa", sum := "e00ce841cd112bc9d7155be8b0cbd71e42b5bc5acbe057a38681d949353eea28", func := "loop.example/milldam/laws.FnExactZAdd", spec := "fnExactZAdd", unfollowed := true, recurses := true, apart := false }
def FnExactZAddSaid : Prop := fnExactZAddRow.holds Try.pinned (OpenSpec.ofChange fnExactZAddSpec)

/-- ITS FALSE NEIGHBOUR: 'it returns false'. Refute it at one input. -/
def fnExactZAddWrong : ChangeSpec := { name := "fnExactZAdd", fn := fun _ => fun
  | [d1, d2] => { results := [.lit (.bool false)], args := [d1, d2] }
  | _ => none }
def FnExactZAddWrongFalsely : Prop := fnExactZAddRow.holds Try.pinned (OpenSpec.ofChange fnExactZAddWrong)

/-- 'laws.FnExactTestText': WHATEVER THE INPUT: true; the input reads as it did. -/
def fnExactTestTextSpec : ChangeSpec := { name := "fnExactTestText", fn := fun _ => fun
  | [d] => { results := [.lit (.bool true)], args := [d] }
  | _ => none }
def fnExactTestTextRow : OpenClaim := { program := "ytaifnkapbffmaaa", sum := "e00ce841cd112bc9d7155be8b0cbd71e42b5bc5acbe057a38681d949353eea28", func := "loop.example/milldam/laws.FnExactTestText", spec := "fnExactTestText", unfollowed := true, recurses := true, apart := false }
def FnExactTestTextSaid : Prop := fnExactTestTextRow.holds Try.pinned (OpenSpec.ofChange fnExactTestTextSpec)

/-- ITS FALSE NEIGHBOUR: 'it returns false'. Refute it at one input. -/
def fnExactTestTextWrong : ChangeSpec := { name := "fnExactTestText", fn := fun _ => fun
  | [d] => { results := [.lit (.bool false)], args := [d] }
  | _ => none }
def FnExactTestTextWrongFalsely : Prop := fnExactTestTextRow.holds Try.pinned (OpenSpec.ofChange fnExactTestTextWrong)

/-- 'laws.FnCellBent': WHATEVER THE INPUT: true; the input reads as it did. -/
def fnCellBentSpec : ChangeSpec := { name := "fnCellBent", fn := fun _ => fun
  | [d] => { results := [.lit (.bool true)], args := [d] }
  | _ => none }
def fnCellBentRow : OpenClaim := { program := "ytaifnkapbffmaaa", sum := "e00ce841cd112bc9d7155be8b0cbd71e42b5bc5acbe057a38681d949353eea28", func := "loop.example/milldam/laws.FnCellBent", spec := "fnCellBent", unfollowed := true, recurses := true, apart := false }
def FnCellBentSaid : Prop := fnCellBentRow.holds Try.pinned (OpenSpec.ofChange fnCellBentSpec)

/-- ITS FALSE NEIGHBOUR: 'it returns false'. Refute it at one input. -/
def fnCellBentWrong : ChangeSpec := { name := "fnCellBent", fn := fun _ => fun
  | [d] => { results := [.lit (.bool false)], args := [d] }
  | _ => none }
def FnCellBentWrongFalsely : Prop := fnCellBentRow.holds Try.pinned (OpenSpec.ofChange fnCellBentWrong)

/-- 'laws.FnZTwice': WHATEVER THE INPUT: true; the input reads as it did. -/
def fnZTwiceSpec : ChangeSpec := { name := "fnZTwice", fn := fun _ => fun
  | [d] => { results := [.lit (.bool true)], args := [d] }
  | _ => none }
def fnZTwiceRow : OpenClaim := { program := "ytaifnkapbffmaaa", sum := "e00ce841cd112bc9d7155be8b0cbd71e42b5bc5acbe057a38681d949353eea28", func := "loop.example/milldam/laws.FnZTwice", spec := "fnZTwice", unfollowed := true, recurses := true, apart := false }
def FnZTwiceSaid : Prop := fnZTwiceRow.holds Try.pinned (OpenSpec.ofChange fnZTwiceSpec)

/-- ITS FALSE NEIGHBOUR: 'it returns false'. Refute it at one input. -/
def fnZTwiceWrong : ChangeSpec := { name := "fnZTwice", fn := fun _ => fun
  | [d] => { results := [.lit (.bool false)], args := [d] }
  | _ => none }
def FnZTwiceWrongFalsely : Prop := fnZTwiceRow.holds Try.pinned (OpenSpec.ofChange fnZTwiceWrong)

/-- 'laws.FnZ': WHATEVER THE INPUT: true; the input reads as it did. -/
def fnZSpec : ChangeSpec := { name := "fnZ", fn := fun _ => fun
  | [d1, d2] => { results := [.lit (.bool true)], args := [d1, d2] }
  | _ => none }
def fnZRow : OpenClaim := { program := "ytaifnkapbffmaaa", sum := "e00ce841cd112bc9d7155be8b0cbd71e42b5bc5acbe057a38681d949353eea28", func := "loop.example/milldam/laws.FnZ", spec := "fnZ", unfollowed := true, recurses := true, apart := false }
def FnZSaid : Prop := fnZRow.holds Try.pinned (OpenSpec.ofChange fnZSpec)

/-- ITS FALSE NEIGHBOUR: 'it returns false'. Refute it at one input. -/
def fnZWrong : ChangeSpec := { name := "fnZ", fn := fun _ => fun
  | [d1, d2] => { results := [.lit (.bool false)], args := [d1, d2] }
  | _ => none }
def FnZWrongFalsely : Prop := fnZRow.holds Try.pinned (OpenSpec.ofChange fnZWrong)

/-- 'laws.FnExactDeltaOnce': WHATEVER THE INPUT: true; the input reads as it did. -/
def fnExactDeltaOnceSpec : ChangeSpec := { name := "fnExactDeltaOnce", fn := fun _ => fun
  | [d1, d2] => { results := [.lit (.bool true)], args := [d1, d2] }
  | _ => none }
def fnExactDeltaOnceRow : OpenClaim := { program := "ytaifnkapbffmaaa", sum := "e00ce841cd112bc9d7155be8b0cbd71e42b5bc5acbe057a38681d949353eea28", func := "loop.example/milldam/laws.FnExactDeltaOnce", spec := "fnExactDeltaOnce", unfollowed := true, recurses := true, apart := false }
def FnExactDeltaOnceSaid : Prop := fnExactDeltaOnceRow.holds Try.pinned (OpenSpec.ofChange fnExactDeltaOnceSpec)

/-- ITS FALSE NEIGHBOUR: 'it returns false'. Refute it at one input. -/
def fnExactDeltaOnceWrong : ChangeSpec := { name := "fnExactDeltaOnce", fn := fun _ => fun
  | [d1, d2] => { results := [.lit (.bool false)], args := [d1, d2] }
  | _ => none }
def FnExactDeltaOnceWrongFalsely : Prop := fnExactDeltaOnceRow.holds Try.pinned (OpenSpec.ofChange fnExactDeltaOnceWrong)

/-- 'laws.FnPlanKids': WHATEVER THE INPUT: true; the input reads as it did. -/
def fnPlanKidsSpec : ChangeSpec := { name := "fnPlanKids", fn := fun _ => fun
  | [d] => { results := [.lit (.bool true)], args := [d] }
  | _ => none }
def fnPlanKidsRow : OpenClaim := { program := "ytaifnkapbffmaaa", sum := "e00ce841cd112bc9d7155be8b0cbd71e42b5bc5acbe057a38681d949353eea28", func := "loop.example/milldam/laws.FnPlanKids", spec := "fnPlanKids", unfollowed := true, recurses := true, apart := false }
def FnPlanKidsSaid : Prop := fnPlanKidsRow.holds Try.pinned (OpenSpec.ofChange fnPlanKidsSpec)

/-- ITS FALSE NEIGHBOUR: 'it returns false'. Refute it at one input. -/
def fnPlanKidsWrong : ChangeSpec := { name := "fnPlanKids", fn := fun _ => fun
  | [d] => { results := [.lit (.bool false)], args := [d] }
  | _ => none }
def FnPlanKidsWrongFalsely : Prop := fnPlanKidsRow.holds Try.pinned (OpenSpec.ofChange fnPlanKidsWrong)

/-- 'laws.FnExactPlanWide': WHATEVER THE INPUT: true; the input reads as it did. -/
def fnExactPlanWideSpec : ChangeSpec := { name := "fnExactPlanWide", fn := fun _ => fun
  | [d1, d2] => { results := [.lit (.bool true)], args := [d1, d2] }
  | _ => none }
def fnExactPlanWideRow : OpenClaim := { program := "ytaifnkapbffmaaa", sum := "e00ce841cd112bc9d7155be8b0cbd71e42b5bc5acbe057a38681d949353eea28", func := "loop.example/milldam/laws.FnExactPlanWide", spec := "fnExactPlanWide", unfollowed := true, recurses := true, loops := true, apart := false }
def FnExactPlanWideSaid : Prop := fnExactPlanWideRow.holds Try.pinned (OpenSpec.ofChange fnExactPlanWideSpec)

/-- ITS FALSE NEIGHBOUR: 'it returns false'. Refute it at one input. -/
def fnExactPlanWideWrong : ChangeSpec := { name := "fnExactPlanWide", fn := fun _ => fun
  | [d1, d2] => { results := [.lit (.bool false)], args := [d1, d2] }
  | _ => none }
def FnExactPlanWideWrongFalsely : Prop := fnExactPlanWideRow.holds Try.pinned (OpenSpec.ofChange fnExactPlanWideWrong)

/- THE SECOND FORM. 'bulk': how many values and letters a reading holds, each counted each time it is reached (what is shared counts as often as it is met; a slice's spare places count too). A statement '..UptoSaid' is the law's where the arguments, and the package variables that the reading takes, are together of bulk at most 1048576: NARROWER than '..Said'. Prove '..Said' where nothing that the law and all that it calls make is longer than what came in: it says more and counts as full. Else prove '..UptoSaid'. A law counts once. -/
mutual
def uptoBulk {H : Type} : DataW H → Nat
  | .lit (.string bytes) => bytes.length + 1
  | .lit _ => 1
  | .nil => 1
  | .ptr d => uptoBulk d + 1
  | .slice elems spare => uptoBulkAll elems + uptoBulkAll spare + 1
  | .agg parts => uptoBulkAll parts + 1
  | .iface _ d => uptoBulk d + 1
  | .map entries => uptoBulkEntries entries + 1
  | .held _ => 1
def uptoBulkAll {H : Type} : List (DataW H) → Nat
  | [] => 0
  | d :: r => uptoBulk d + uptoBulkAll r
def uptoBulkEntries {H : Type} : List (Lit × DataW H) → Nat
  | [] => 0
  | x :: r => uptoBulkEntry x + uptoBulkEntries r
def uptoBulkEntry {H : Type} : Lit × DataW H → Nat
  | (.string bytes, d) => bytes.length + uptoBulk d + 1
  | (_, d) => uptoBulk d + 1
 end
def uptoSmall : (H : Type) → List (DataW H) → Bool := fun _ ds => decide (uptoBulkAll ds ≤ 1048576)
def OpenSpec.upto (s : _root_.Go.ChangeSpec) : _root_.Go.OpenSpec := { _root_.Go.OpenSpec.ofChange s with cond := some uptoSmall }

/-- 'laws.FnExactZAdd', WHERE WHAT IT READS IS OF BULK AT MOST 1048576: true; the input reads as it did. -/
def fnExactZAddUptoRow : OpenClaim := { program := "ytaifnkapbffmaaa", sum := "e00ce841cd112bc9d7155be8b0cbd71e42b5bc5acbe057a38681d949353eea28", func := "loop.example/milldam/laws.FnExactZAdd", spec := "fnExactZAdd", unfollowed := true, recurses := true, apart := false, narrowed := true }
def FnExactZAddUptoSaid : Prop := fnExactZAddUptoRow.holds Try.pinned (OpenSpec.upto fnExactZAddSpec)

/-- 'laws.FnExactTestText', WHERE WHAT IT READS IS OF BULK AT MOST 1048576: true; the input reads as it did. -/
def fnExactTestTextUptoRow : OpenClaim := { program := "ytaifnkapbffmaaa", sum := "e00ce841cd112bc9d7155be8b0cbd71e42b5bc5acbe057a38681d949353eea28", func := "loop.example/milldam/laws.FnExactTestText", spec := "fnExactTestText", unfollowed := true, recurses := true, apart := false, narrowed := true }
def FnExactTestTextUptoSaid : Prop := fnExactTestTextUptoRow.holds Try.pinned (OpenSpec.upto fnExactTestTextSpec)

/-- 'laws.FnCellBent', WHERE WHAT IT READS IS OF BULK AT MOST 1048576: true; the input reads as it did. -/
def fnCellBentUptoRow : OpenClaim := { program := "ytaifnkapbffmaaa", sum := "e00ce841cd112bc9d7155be8b0cbd71e42b5bc5acbe057a38681d949353eea28", func := "loop.example/milldam/laws.FnCellBent", spec := "fnCellBent", unfollowed := true, recurses := true, apart := false, narrowed := true }
def FnCellBentUptoSaid : Prop := fnCellBentUptoRow.holds Try.pinned (OpenSpec.upto fnCellBentSpec)

/-- 'laws.FnZTwice', WHERE WHAT IT READS IS OF BULK AT MOST 1048576: true; the input reads as it did. -/
def fnZTwiceUptoRow : OpenClaim := { program := "ytaifnkapbffmaaa", sum := "e00ce841cd112bc9d7155be8b0cbd71e42b5bc5acbe057a38681d949353eea28", func := "loop.example/milldam/laws.FnZTwice", spec := "fnZTwice", unfollowed := true, recurses := true, apart := false, narrowed := true }
def FnZTwiceUptoSaid : Prop := fnZTwiceUptoRow.holds Try.pinned (OpenSpec.upto fnZTwiceSpec)

/-- 'laws.FnZ', WHERE WHAT IT READS IS OF BULK AT MOST 1048576: true; the input reads as it did. -/
def fnZUptoRow : OpenClaim := { program := "ytaifnkapbffmaaa", sum := "e00ce841cd112bc9d7155be8b0cbd71e42b5bc5acbe057a38681d949353eea28", func := "loop.example/milldam/laws.FnZ", spec := "fnZ", unfollowed := true, recurses := true, apart := false, narrowed := true }
def FnZUptoSaid : Prop := fnZUptoRow.holds Try.pinned (OpenSpec.upto fnZSpec)

/-- 'laws.FnExactDeltaOnce', WHERE WHAT IT READS IS OF BULK AT MOST 1048576: true; the input reads as it did. -/
def fnExactDeltaOnceUptoRow : OpenClaim := { program := "ytaifnkapbffmaaa", sum := "e00ce841cd112bc9d7155be8b0cbd71e42b5bc5acbe057a38681d949353eea28", func := "loop.example/milldam/laws.FnExactDeltaOnce", spec := "fnExactDeltaOnce", unfollowed := true, recurses := true, apart := false, narrowed := true }
def FnExactDeltaOnceUptoSaid : Prop := fnExactDeltaOnceUptoRow.holds Try.pinned (OpenSpec.upto fnExactDeltaOnceSpec)

/-- 'laws.FnPlanKids', WHERE WHAT IT READS IS OF BULK AT MOST 1048576: true; the input reads as it did. -/
def fnPlanKidsUptoRow : OpenClaim := { program := "ytaifnkapbffmaaa", sum := "e00ce841cd112bc9d7155be8b0cbd71e42b5bc5acbe057a38681d949353eea28", func := "loop.example/milldam/laws.FnPlanKids", spec := "fnPlanKids", unfollowed := true, recurses := true, apart := false, narrowed := true }
def FnPlanKidsUptoSaid : Prop := fnPlanKidsUptoRow.holds Try.pinned (OpenSpec.upto fnPlanKidsSpec)

/-- 'laws.FnExactPlanWide', WHERE WHAT IT READS IS OF BULK AT MOST 1048576: true; the input reads as it did. -/
def fnExactPlanWideUptoRow : OpenClaim := { program := "ytaifnkapbffmaaa", sum := "e00ce841cd112bc9d7155be8b0cbd71e42b5bc5acbe057a38681d949353eea28", func := "loop.example/milldam/laws.FnExactPlanWide", spec := "fnExactPlanWide", unfollowed := true, recurses := true, loops := true, apart := false, narrowed := true }
def FnExactPlanWideUptoSaid : Prop := fnExactPlanWideUptoRow.holds Try.pinned (OpenSpec.upto fnExactPlanWideSpec)

end Rows
end Go.Proofs.Ytaifnkapbffmaaa
