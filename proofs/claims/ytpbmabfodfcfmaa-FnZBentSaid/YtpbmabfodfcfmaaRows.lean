/-
  NARROWER THAN 'FOR EVERY INPUT', by the rows' own cells (each row's printed sentence says how): FnExactPlanSame: loops.
  DERIVED. THE GIVEN ROWS OF THIS SEAT. 10 by the template 'for every input the law returns true; each argument reads behind the call as it read before'; 0 by the template 'total and deterministic' (their statements: YtpbmabfodfcfmaaTotals.lean).
  GIVEN WITH THE SEED: the statements are not yours to turn. If you find one false, say at which input.
  Laid BY PROGRAM, IN A SANDBOX (cutbox-rows.mjs): the forced cells as the released guide's own fill.sh prints them over the translation be960404fb915eae… (all of the seat's roots in one cut). By AI agents, Wed Nov 11 2026. No macro, syntax, notation, axiom, sorry.
-/
import Derived.Test.YtpbmabfodfcfmaaChecked
import GoSem.Claim
import GoSem.ClaimJoined
import GoSem.ClaimMapViews
import Derived.JoinedTies
import Derived.KernelRfl
namespace Go.Proofs.Ytpbmabfodfcfmaa
/- THE CELL 'sum', in the pinned program and in every row, IS THE sha256 OF THE DUMP (.gsa) THAT YtpbmabfodfcfmaaProg.lean LOADS. Nothing in Lean hashes anything: it is a label: what it is worth is what the hold of that sum in a sandbox is worth. -/
noncomputable def Try.pinned : Pinned := { name := "ytpbmabfodfcfmaa", sum := "be960404fb915eaea6d4aae7cc47bcdd2ead17d64bbdc2fa5a4f0a02e05f537f", checked := Try.checked }
namespace Rows
def none {H : Type} : Left H := { results := [], args := [] }

/-- 'laws.FnRowLess': WHATEVER THE INPUT: true; the input reads as it did. -/
def fnRowLessSpec : ChangeSpec := { name := "fnRowLess", fn := fun _ => fun
  | [d1, d2] => { results := [.lit (.bool true)], args := [d1, d2] }
  | _ => none }
def fnRowLessRow : OpenClaim := { program := "ytpbmabfodfcfmaa", sum := "be960404fb915eaea6d4aae7cc47bcdd2ead17d64bbdc2fa5a4f0a02e05f537f", func := "loop.example/milldam/laws.FnRowLess", spec := "fnRowLess", apart := false }
def FnRowLessSaid : Prop := fnRowLessRow.holds Try.pinned (OpenSpec.ofChange fnRowLessSpec)

/-- ITS FALSE NEIGHBOUR: 'it returns false'. Refute it at one input. -/
def fnRowLessWrong : ChangeSpec := { name := "fnRowLess", fn := fun _ => fun
  | [d1, d2] => { results := [.lit (.bool false)], args := [d1, d2] }
  | _ => none }
def FnRowLessWrongFalsely : Prop := fnRowLessRow.holds Try.pinned (OpenSpec.ofChange fnRowLessWrong)

/-- 'laws.FnExactZOk': WHATEVER THE INPUT: true; the input reads as it did. -/
def fnExactZOkSpec : ChangeSpec := { name := "fnExactZOk", fn := fun _ => fun
  | [d] => { results := [.lit (.bool true)], args := [d] }
  | _ => none }
def fnExactZOkRow : OpenClaim := { program := "ytpbmabfodfcfmaa", sum := "be960404fb915eaea6d4aae7cc47bcdd2ead17d64bbdc2fa5a4f0a02e05f537f", func := "loop.example/milldam/laws.FnExactZOk", spec := "fnExactZOk", unfollowed := true, recurses := true, apart := false }
def FnExactZOkSaid : Prop := fnExactZOkRow.holds Try.pinned (OpenSpec.ofChange fnExactZOkSpec)

/-- ITS FALSE NEIGHBOUR: 'it returns false'. Refute it at one input. -/
def fnExactZOkWrong : ChangeSpec := { name := "fnExactZOk", fn := fun _ => fun
  | [d] => { results := [.lit (.bool false)], args := [d] }
  | _ => none }
def FnExactZOkWrongFalsely : Prop := fnExactZOkRow.holds Try.pinned (OpenSpec.ofChange fnExactZOkWrong)

/-- 'laws.FnExactZGet': WHATEVER THE INPUT: true; the input reads as it did. -/
def fnExactZGetSpec : ChangeSpec := { name := "fnExactZGet", fn := fun _ => fun
  | [d1, d2] => { results := [.lit (.bool true)], args := [d1, d2] }
  | _ => none }
def fnExactZGetRow : OpenClaim := { program := "ytpbmabfodfcfmaa", sum := "be960404fb915eaea6d4aae7cc47bcdd2ead17d64bbdc2fa5a4f0a02e05f537f", func := "loop.example/milldam/laws.FnExactZGet", spec := "fnExactZGet", unfollowed := true, recurses := true, apart := false }
def FnExactZGetSaid : Prop := fnExactZGetRow.holds Try.pinned (OpenSpec.ofChange fnExactZGetSpec)

/-- ITS FALSE NEIGHBOUR: 'it returns false'. Refute it at one input. -/
def fnExactZGetWrong : ChangeSpec := { name := "fnExactZGet", fn := fun _ => fun
  | [d1, d2] => { results := [.lit (.bool false)], args := [d1, d2] }
  | _ => none }
def FnExactZGetWrongFalsely : Prop := fnExactZGetRow.holds Try.pinned (OpenSpec.ofChange fnExactZGetWrong)

/-- 'laws.FnExactPlanSame': WHATEVER THE INPUT: true; the input reads as it did. -/
def fnExactPlanSameSpec : ChangeSpec := { name := "fnExactPlanSame", fn := fun _ => fun
  | [d1, d2] => { results := [.lit (.bool true)], args := [d1, d2] }
  | _ => none }
def fnExactPlanSameRow : OpenClaim := { program := "ytpbmabfodfcfmaa", sum := "be960404fb915eaea6d4aae7cc47bcdd2ead17d64bbdc2fa5a4f0a02e05f537f", func := "loop.example/milldam/laws.FnExactPlanSame", spec := "fnExactPlanSame", unfollowed := true, recurses := true, loops := true, apart := false }
def FnExactPlanSameSaid : Prop := fnExactPlanSameRow.holds Try.pinned (OpenSpec.ofChange fnExactPlanSameSpec)

/-- ITS FALSE NEIGHBOUR: 'it returns false'. Refute it at one input. -/
def fnExactPlanSameWrong : ChangeSpec := { name := "fnExactPlanSame", fn := fun _ => fun
  | [d1, d2] => { results := [.lit (.bool false)], args := [d1, d2] }
  | _ => none }
def FnExactPlanSameWrongFalsely : Prop := fnExactPlanSameRow.holds Try.pinned (OpenSpec.ofChange fnExactPlanSameWrong)

/-- 'laws.FnExactZNeg': WHATEVER THE INPUT: true; the input reads as it did. -/
def fnExactZNegSpec : ChangeSpec := { name := "fnExactZNeg", fn := fun _ => fun
  | [d] => { results := [.lit (.bool true)], args := [d] }
  | _ => none }
def fnExactZNegRow : OpenClaim := { program := "ytpbmabfodfcfmaa", sum := "be960404fb915eaea6d4aae7cc47bcdd2ead17d64bbdc2fa5a4f0a02e05f537f", func := "loop.example/milldam/laws.FnExactZNeg", spec := "fnExactZNeg", unfollowed := true, recurses := true, apart := false }
def FnExactZNegSaid : Prop := fnExactZNegRow.holds Try.pinned (OpenSpec.ofChange fnExactZNegSpec)

/-- ITS FALSE NEIGHBOUR: 'it returns false'. Refute it at one input. -/
def fnExactZNegWrong : ChangeSpec := { name := "fnExactZNeg", fn := fun _ => fun
  | [d] => { results := [.lit (.bool false)], args := [d] }
  | _ => none }
def FnExactZNegWrongFalsely : Prop := fnExactZNegRow.holds Try.pinned (OpenSpec.ofChange fnExactZNegWrong)

/-- 'laws.FnExactZPos': WHATEVER THE INPUT: true; the input reads as it did. -/
def fnExactZPosSpec : ChangeSpec := { name := "fnExactZPos", fn := fun _ => fun
  | [d] => { results := [.lit (.bool true)], args := [d] }
  | _ => none }
def fnExactZPosRow : OpenClaim := { program := "ytpbmabfodfcfmaa", sum := "be960404fb915eaea6d4aae7cc47bcdd2ead17d64bbdc2fa5a4f0a02e05f537f", func := "loop.example/milldam/laws.FnExactZPos", spec := "fnExactZPos", unfollowed := true, recurses := true, apart := false }
def FnExactZPosSaid : Prop := fnExactZPosRow.holds Try.pinned (OpenSpec.ofChange fnExactZPosSpec)

/-- ITS FALSE NEIGHBOUR: 'it returns false'. Refute it at one input. -/
def fnExactZPosWrong : ChangeSpec := { name := "fnExactZPos", fn := fun _ => fun
  | [d] => { results := [.lit (.bool false)], args := [d] }
  | _ => none }
def FnExactZPosWrongFalsely : Prop := fnExactZPosRow.holds Try.pinned (OpenSpec.ofChange fnExactZPosWrong)

/-- 'laws.FnExactCellText': WHATEVER THE INPUT: true; the input reads as it did. -/
def fnExactCellTextSpec : ChangeSpec := { name := "fnExactCellText", fn := fun _ => fun
  | [d] => { results := [.lit (.bool true)], args := [d] }
  | _ => none }
def fnExactCellTextRow : OpenClaim := { program := "ytpbmabfodfcfmaa", sum := "be960404fb915eaea6d4aae7cc47bcdd2ead17d64bbdc2fa5a4f0a02e05f537f", func := "loop.example/milldam/laws.FnExactCellText", spec := "fnExactCellText", unfollowed := true, recurses := true, apart := false }
def FnExactCellTextSaid : Prop := fnExactCellTextRow.holds Try.pinned (OpenSpec.ofChange fnExactCellTextSpec)

/-- ITS FALSE NEIGHBOUR: 'it returns false'. Refute it at one input. -/
def fnExactCellTextWrong : ChangeSpec := { name := "fnExactCellText", fn := fun _ => fun
  | [d] => { results := [.lit (.bool false)], args := [d] }
  | _ => none }
def FnExactCellTextWrongFalsely : Prop := fnExactCellTextRow.holds Try.pinned (OpenSpec.ofChange fnExactCellTextWrong)

/-- 'laws.FnZBent': WHATEVER THE INPUT: true; the input reads as it did. -/
def fnZBentSpec : ChangeSpec := { name := "fnZBent", fn := fun _ => fun
  | [d] => { results := [.lit (.bool true)], args := [d] }
  | _ => none }
def fnZBentRow : OpenClaim := { program := "ytpbmabfodfcfmaa", sum := "be960404fb915eaea6d4aae7cc47bcdd2ead17d64bbdc2fa5a4f0a02e05f537f", func := "loop.example/milldam/laws.FnZBent", spec := "fnZBent", unfollowed := true, recurses := true, apart := false }
def FnZBentSaid : Prop := fnZBentRow.holds Try.pinned (OpenSpec.ofChange fnZBentSpec)

/-- ITS FALSE NEIGHBOUR: 'it returns false'. Refute it at one input. -/
def fnZBentWrong : ChangeSpec := { name := "fnZBent", fn := fun _ => fun
  | [d] => { results := [.lit (.bool false)], args := [d] }
  | _ => none }
def FnZBentWrongFalsely : Prop := fnZBentRow.holds Try.pinned (OpenSpec.ofChange fnZBentWrong)

/-- 'laws.FnZGet': WHATEVER THE INPUT: true; the input reads as it did. -/
def fnZGetSpec : ChangeSpec := { name := "fnZGet", fn := fun _ => fun
  | [d] => { results := [.lit (.bool true)], args := [d] }
  | _ => none }
def fnZGetRow : OpenClaim := { program := "ytpbmabfodfcfmaa", sum := "be960404fb915eaea6d4aae7cc47bcdd2ead17d64bbdc2fa5a4f0a02e05f537f", func := "loop.example/milldam/laws.FnZGet", spec := "fnZGet", unfollowed := true, recurses := true, apart := false }
def FnZGetSaid : Prop := fnZGetRow.holds Try.pinned (OpenSpec.ofChange fnZGetSpec)

/-- ITS FALSE NEIGHBOUR: 'it returns false'. Refute it at one input. -/
def fnZGetWrong : ChangeSpec := { name := "fnZGet", fn := fun _ => fun
  | [d] => { results := [.lit (.bool false)], args := [d] }
  | _ => none }
def FnZGetWrongFalsely : Prop := fnZGetRow.holds Try.pinned (OpenSpec.ofChange fnZGetWrong)

/-- 'laws.FnZPos': WHATEVER THE INPUT: true; the input reads as it did. -/
def fnZPosSpec : ChangeSpec := { name := "fnZPos", fn := fun _ => fun
  | [d] => { results := [.lit (.bool true)], args := [d] }
  | _ => none }
def fnZPosRow : OpenClaim := { program := "ytpbmabfodfcfmaa", sum := "be960404fb915eaea6d4aae7cc47bcdd2ead17d64bbdc2fa5a4f0a02e05f537f", func := "loop.example/milldam/laws.FnZPos", spec := "fnZPos", unfollowed := true, recurses := true, apart := false }
def FnZPosSaid : Prop := fnZPosRow.holds Try.pinned (OpenSpec.ofChange fnZPosSpec)

/-- ITS FALSE NEIGHBOUR: 'it returns false'. Refute it at one input. -/
def fnZPosWrong : ChangeSpec := { name := "fnZPos", fn := fun _ => fun
  | [d] => { results := [.lit (.bool false)], args := [d] }
  | _ => none }
def FnZPosWrongFalsely : Prop := fnZPosRow.holds Try.pinned (OpenSpec.ofChange fnZPosWrong)

/- THE SECOND FORM. 'bulk': how many values and letters a reading holds, each counted each time it is reached (what is shared counts as often as it is met; a slice's spare places count too). A statement '..UptoSaid' is the law's where the arguments, and the package variables that the reading takes, are together of bulk at most 1048576: NARROWER than '..Said'. Prove '..Said' where nothing that the law and all that it calls make is longer than what came in: it says more and counts as full. Else prove '..UptoSaid'. A law counts once. -/
mutual
def uptoBulk {H : Type} : DataW H → Nat
  | .lit (.string bytes) => bytes.length + 1
  | .lit _ => 1
  | .nil => 1
  | .ptr d => uptoBulk d + 1
  | .slice elems spare => uptoBulkAll elems + uptoBulkAll spare + 1
  | .agg parts => uptoBulkAll parts + 1
  | .iface _ d => uptoBulk d + 1
  | .map entries => uptoBulkEntries entries + 1
  | .held _ => 1
def uptoBulkAll {H : Type} : List (DataW H) → Nat
  | [] => 0
  | d :: r => uptoBulk d + uptoBulkAll r
def uptoBulkEntries {H : Type} : List (Lit × DataW H) → Nat
  | [] => 0
  | x :: r => uptoBulkEntry x + uptoBulkEntries r
def uptoBulkEntry {H : Type} : Lit × DataW H → Nat
  | (.string bytes, d) => bytes.length + uptoBulk d + 1
  | (_, d) => uptoBulk d + 1
 end
def uptoSmall : (H : Type) → List (DataW H) → Bool := fun _ ds => decide (uptoBulkAll ds ≤ 1048576)
def OpenSpec.upto (s : _root_.Go.ChangeSpec) : _root_.Go.OpenSpec := { _root_.Go.OpenSpec.ofChange s with cond := some uptoSmall }

/-- 'laws.FnRowLess', WHERE WHAT IT READS IS OF BULK AT MOST 1048576: true; the input reads as it did. -/
def fnRowLessUptoRow : OpenClaim := { program := "ytpbmabfodfcfmaa", sum := "be960404fb915eaea6d4aae7cc47bcdd2ead17d64bbdc2fa5a4f0a02e05f537f", func := "loop.example/milldam/laws.FnRowLess", spec := "fnRowLess", apart := false, narrowed := true }
def FnRowLessUptoSaid : Prop := fnRowLessUptoRow.holds Try.pinned (OpenSpec.upto fnRowLessSpec)

/-- 'laws.FnExactZOk', WHERE WHAT IT READS IS OF BULK AT MOST 1048576: true; the input reads as it did. -/
def fnExactZOkUptoRow : OpenClaim := { program := "ytpbmabfodfcfmaa", sum := "be960404fb915eaea6d4aae7cc47bcdd2ead17d64bbdc2fa5a4f0a02e05f537f", func := "loop.example/milldam/laws.FnExactZOk", spec := "fnExactZOk", unfollowed := true, recurses := true, apart := false, narrowed := true }
def FnExactZOkUptoSaid : Prop := fnExactZOkUptoRow.holds Try.pinned (OpenSpec.upto fnExactZOkSpec)

/-- 'laws.FnExactZGet', WHERE WHAT IT READS IS OF BULK AT MOST 1048576: true; the input reads as it did. -/
def fnExactZGetUptoRow : OpenClaim := { program := "ytpbmabfodfcfmaa", sum := "be960404fb915eaea6d4aae7cc47bcdd2ead17d64bbdc2fa5a4f0a02e05f537f", func := "loop.example/milldam/laws.FnExactZGet", spec := "fnExactZGet", unfollowed := true, recurses := true, apart := false, narrowed := true }
def FnExactZGetUptoSaid : Prop := fnExactZGetUptoRow.holds Try.pinned (OpenSpec.upto fnExactZGetSpec)

/-- 'laws.FnExactPlanSame', WHERE WHAT IT READS IS OF BULK AT MOST 1048576: true; the input reads as it did. -/
def fnExactPlanSameUptoRow : OpenClaim := { program := "ytpbmabfodfcfmaa", sum := "be960404fb915eaea6d4aae7cc47bcdd2ead17d64bbdc2fa5a4f0a02e05f537f", func := "loop.example/milldam/laws.FnExactPlanSame", spec := "fnExactPlanSame", unfollowed := true, recurses := true, loops := true, apart := false, narrowed := true }
def FnExactPlanSameUptoSaid : Prop := fnExactPlanSameUptoRow.holds Try.pinned (OpenSpec.upto fnExactPlanSameSpec)

/-- 'laws.FnExactZNeg', WHERE WHAT IT READS IS OF BULK AT MOST 1048576: true; the input reads as it did. -/
def fnExactZNegUptoRow : OpenClaim := { program := "ytpbmabfodfcfmaa", sum := "be960404fb915eaea6d4aae7cc47bcdd2ead17d64bbdc2fa5a4f0a02e05f537f", func := "loop.example/milldam/laws.FnExactZNeg", spec := "fnExactZNeg", unfollowed := true, recurses := true, apart := false, narrowed := true }
def FnExactZNegUptoSaid : Prop := fnExactZNegUptoRow.holds Try.pinned (OpenSpec.upto fnExactZNegSpec)

/-- 'laws.FnExactZPos', WHERE WHAT IT READS IS OF BULK AT MOST 1048576: true; the input reads as it did. -/
def fnExactZPosUptoRow : OpenClaim := { program := "ytpbmabfodfcfmaa", sum := "be960404fb915eaea6d4aae7cc47bcdd2ead17d64bbdc2fa5a4f0a02e05f537f", func := "loop.example/milldam/laws.FnExactZPos", spec := "fnExactZPos", unfollowed := true, recurses := true, apart := false, narrowed := true }
def FnExactZPosUptoSaid : Prop := fnExactZPosUptoRow.holds Try.pinned (OpenSpec.upto fnExactZPosSpec)

/-- 'laws.FnExactCellText', WHERE WHAT IT READS IS OF BULK AT MOST 1048576: true; the input reads as it did. -/
def fnExactCellTextUptoRow : OpenClaim := { program := "ytpbmabfodfcfmaa", sum := "be960404fb915eaea6d4aae7cc47bcdd2ead17d64bbdc2fa5a4f0a02e05f537f", func := "loop.example/milldam/laws.FnExactCellText", spec := "fnExactCellText", unfollowed := true, recurses := true, apart := false, narrowed := true }
def FnExactCellTextUptoSaid : Prop := fnExactCellTextUptoRow.holds Try.pinned (OpenSpec.upto fnExactCellTextSpec)

/-- 'laws.FnZBent', WHERE WHAT IT READS IS OF BULK AT MOST 1048576: true; the input reads as it did. -/
def fnZBentUptoRow : OpenClaim := { program := "ytpbmabfodfcfmaa", sum := "be960404fb915eaea6d4aae7cc47bcdd2ead17d64bbdc2fa5a4f0a02e05f537f", func := "loop.example/milldam/laws.FnZBent", spec := "fnZBent", unfollowed := true, recurses := true, apart := false, narrowed := true }
def FnZBentUptoSaid : Prop := fnZBentUptoRow.holds Try.pinned (OpenSpec.upto fnZBentSpec)

/-- 'laws.FnZGet', WHERE WHAT IT READS IS OF BULK AT MOST 1048576: true; the input reads as it did. -/
def fnZGetUptoRow : OpenClaim := { program := "ytpbmabfodfcfmaa", sum := "be960404fb915eaea6d4aae7cc47bcdd2ead17d64bbdc2fa5a4f0a02e05f537f", func := "loop.example/milldam/laws.FnZGet", spec := "fnZGet", unfollowed := true, recurses := true, apart := false, narrowed := true }
def FnZGetUptoSaid : Prop := fnZGetUptoRow.holds Try.pinned (OpenSpec.upto fnZGetSpec)

/-- 'laws.FnZPos', WHERE WHAT IT READS IS OF BULK AT MOST 1048576: true; the input reads as it did. -/
def fnZPosUptoRow : OpenClaim := { program := "ytpbmabfodfcfmaa", sum := "be960404fb915eaea6d4aae7cc47bcdd2ead17d64bbdc2fa5a4f0a02e05f537f", func := "loop.example/milldam/laws.FnZPos", spec := "fnZPos", unfollowed := true, recurses := true, apart := false, narrowed := true }
def FnZPosUptoSaid : Prop := fnZPosUptoRow.holds Try.pinned (OpenSpec.upto fnZPosSpec)

end Rows
end Go.Proofs.Ytpbmabfodfcfmaa
