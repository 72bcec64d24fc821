/-
  No cell of these rows narrows 'for every input' (looked for: loops, veiled, ifaces, maps, wideKeys, modest, calm, conditions, laid).
  DERIVED. THE GIVEN ROWS OF THIS SEAT. 10 by the template 'for every input the law returns true; each argument reads behind the call as it read before'; 0 by the template 'total and deterministic' (their statements: YtjajepomgbpjpaaTotals.lean).
  GIVEN WITH THE SEED: the statements are not yours to turn. If you find one false, say at which input.
  Laid BY PROGRAM, IN A SANDBOX (cutbox-rows.mjs): the forced cells as the released guide's own fill.sh prints them over the translation 80a50f1526aa057c… (all of the seat's roots in one cut). By AI agents, Wed Nov 11 2026. No macro, syntax, notation, axiom, sorry.
-/
import Derived.Test.YtjajepomgbpjpaaChecked
import GoSem.Claim
import GoSem.ClaimJoined
import GoSem.ClaimMapViews
import Derived.JoinedTies
import Derived.KernelRfl
namespace Go.Proofs.Ytjajepomgbpjpaa
/- THE CELL 'sum', in the pinned program and in every row, IS THE sha256 OF THE DUMP (.gsa) THAT YtjajepomgbpjpaaProg.lean LOADS. Nothing in Lean hashes anything: it is a label: what it is worth is what the hold of that sum in a sandbox is worth. -/
noncomputable def Try.pinned : Pinned := { name := "ytjajepomgbpjpaa", sum := "80a50f1526aa057cd0d7a99b852011f7a1e74ba79cca4c12e82ea4dc577dde6a", checked := Try.checked }
namespace Rows
def none {H : Type} : Left H := { results := [], args := [] }

/-- 'laws.FnExactConstants': WHATEVER THE INPUT: true; the input reads as it did. -/
def fnExactConstantsSpec : ChangeSpec := { name := "fnExactConstants", fn := fun _ => fun
  | [] => { results := [.lit (.bool true)], args := [] }
  | _ => none }
def fnExactConstantsRow : OpenClaim := { program := "ytjajepomgbpjpaa", sum := "80a50f1526aa057cd0d7a99b852011f7a1e74ba79cca4c12e82ea4dc577dde6a", func := "loop.example/milldam/laws.FnExactConstants", spec := "fnExactConstants", apart := false }
def FnExactConstantsSaid : Prop := fnExactConstantsRow.holds Try.pinned (OpenSpec.ofChange fnExactConstantsSpec)

/-- ITS FALSE NEIGHBOUR: 'it returns false'. Refute it at one input. -/
def fnExactConstantsWrong : ChangeSpec := { name := "fnExactConstants", fn := fun _ => fun
  | [] => { results := [.lit (.bool false)], args := [] }
  | _ => none }
def FnExactConstantsWrongFalsely : Prop := fnExactConstantsRow.holds Try.pinned (OpenSpec.ofChange fnExactConstantsWrong)

/-- 'laws.FnExactRowSame': WHATEVER THE INPUT: true; the input reads as it did. -/
def fnExactRowSameSpec : ChangeSpec := { name := "fnExactRowSame", fn := fun _ => fun
  | [d1, d2] => { results := [.lit (.bool true)], args := [d1, d2] }
  | _ => none }
def fnExactRowSameRow : OpenClaim := { program := "ytjajepomgbpjpaa", sum := "80a50f1526aa057cd0d7a99b852011f7a1e74ba79cca4c12e82ea4dc577dde6a", func := "loop.example/milldam/laws.FnExactRowSame", spec := "fnExactRowSame", apart := false }
def FnExactRowSameSaid : Prop := fnExactRowSameRow.holds Try.pinned (OpenSpec.ofChange fnExactRowSameSpec)

/-- ITS FALSE NEIGHBOUR: 'it returns false'. Refute it at one input. -/
def fnExactRowSameWrong : ChangeSpec := { name := "fnExactRowSame", fn := fun _ => fun
  | [d1, d2] => { results := [.lit (.bool false)], args := [d1, d2] }
  | _ => none }
def FnExactRowSameWrongFalsely : Prop := fnExactRowSameRow.holds Try.pinned (OpenSpec.ofChange fnExactRowSameWrong)

/-- 'laws.FnExactRowOk': WHATEVER THE INPUT: true; the input reads as it did. -/
def fnExactRowOkSpec : ChangeSpec := { name := "fnExactRowOk", fn := fun _ => fun
  | [d] => { results := [.lit (.bool true)], args := [d] }
  | _ => none }
def fnExactRowOkRow : OpenClaim := { program := "ytjajepomgbpjpaa", sum := "80a50f1526aa057cd0d7a99b852011f7a1e74ba79cca4c12e82ea4dc577dde6a", func := "loop.example/milldam/laws.FnExactRowOk", spec := "fnExactRowOk", unfollowed := true, recurses := true, apart := false }
def FnExactRowOkSaid : Prop := fnExactRowOkRow.holds Try.pinned (OpenSpec.ofChange fnExactRowOkSpec)

/-- ITS FALSE NEIGHBOUR: 'it returns false'. Refute it at one input. -/
def fnExactRowOkWrong : ChangeSpec := { name := "fnExactRowOk", fn := fun _ => fun
  | [d] => { results := [.lit (.bool false)], args := [d] }
  | _ => none }
def FnExactRowOkWrongFalsely : Prop := fnExactRowOkRow.holds Try.pinned (OpenSpec.ofChange fnExactRowOkWrong)

/-- 'laws.FnExactCellOk': WHATEVER THE INPUT: true; the input reads as it did. -/
def fnExactCellOkSpec : ChangeSpec := { name := "fnExactCellOk", fn := fun _ => fun
  | [d1, d2] => { results := [.lit (.bool true)], args := [d1, d2] }
  | _ => none }
def fnExactCellOkRow : OpenClaim := { program := "ytjajepomgbpjpaa", sum := "80a50f1526aa057cd0d7a99b852011f7a1e74ba79cca4c12e82ea4dc577dde6a", func := "loop.example/milldam/laws.FnExactCellOk", spec := "fnExactCellOk", unfollowed := true, recurses := true, apart := false }
def FnExactCellOkSaid : Prop := fnExactCellOkRow.holds Try.pinned (OpenSpec.ofChange fnExactCellOkSpec)

/-- ITS FALSE NEIGHBOUR: 'it returns false'. Refute it at one input. -/
def fnExactCellOkWrong : ChangeSpec := { name := "fnExactCellOk", fn := fun _ => fun
  | [d1, d2] => { results := [.lit (.bool false)], args := [d1, d2] }
  | _ => none }
def FnExactCellOkWrongFalsely : Prop := fnExactCellOkRow.holds Try.pinned (OpenSpec.ofChange fnExactCellOkWrong)

/-- 'laws.FnExactTestOk': WHATEVER THE INPUT: true; the input reads as it did. -/
def fnExactTestOkSpec : ChangeSpec := { name := "fnExactTestOk", fn := fun _ => fun
  | [d1, d2] => { results := [.lit (.bool true)], args := [d1, d2] }
  | _ => none }
def fnExactTestOkRow : OpenClaim := { program := "ytjajepomgbpjpaa", sum := "80a50f1526aa057cd0d7a99b852011f7a1e74ba79cca4c12e82ea4dc577dde6a", func := "loop.example/milldam/laws.FnExactTestOk", spec := "fnExactTestOk", unfollowed := true, recurses := true, apart := false }
def FnExactTestOkSaid : Prop := fnExactTestOkRow.holds Try.pinned (OpenSpec.ofChange fnExactTestOkSpec)

/-- ITS FALSE NEIGHBOUR: 'it returns false'. Refute it at one input. -/
def fnExactTestOkWrong : ChangeSpec := { name := "fnExactTestOk", fn := fun _ => fun
  | [d1, d2] => { results := [.lit (.bool false)], args := [d1, d2] }
  | _ => none }
def FnExactTestOkWrongFalsely : Prop := fnExactTestOkRow.holds Try.pinned (OpenSpec.ofChange fnExactTestOkWrong)

/-- 'laws.FnExactRowJoin': WHATEVER THE INPUT: true; the input reads as it did. -/
def fnExactRowJoinSpec : ChangeSpec := { name := "fnExactRowJoin", fn := fun _ => fun
  | [d1, d2] => { results := [.lit (.bool true)], args := [d1, d2] }
  | _ => none }
def fnExactRowJoinRow : OpenClaim := { program := "ytjajepomgbpjpaa", sum := "80a50f1526aa057cd0d7a99b852011f7a1e74ba79cca4c12e82ea4dc577dde6a", func := "loop.example/milldam/laws.FnExactRowJoin", spec := "fnExactRowJoin", apart := false }
def FnExactRowJoinSaid : Prop := fnExactRowJoinRow.holds Try.pinned (OpenSpec.ofChange fnExactRowJoinSpec)

/-- ITS FALSE NEIGHBOUR: 'it returns false'. Refute it at one input. -/
def fnExactRowJoinWrong : ChangeSpec := { name := "fnExactRowJoin", fn := fun _ => fun
  | [d1, d2] => { results := [.lit (.bool false)], args := [d1, d2] }
  | _ => none }
def FnExactRowJoinWrongFalsely : Prop := fnExactRowJoinRow.holds Try.pinned (OpenSpec.ofChange fnExactRowJoinWrong)

/-- 'laws.FnExactRowLess': WHATEVER THE INPUT: true; the input reads as it did. -/
def fnExactRowLessSpec : ChangeSpec := { name := "fnExactRowLess", fn := fun _ => fun
  | [d1, d2] => { results := [.lit (.bool true)], args := [d1, d2] }
  | _ => none }
def fnExactRowLessRow : OpenClaim := { program := "ytjajepomgbpjpaa", sum := "80a50f1526aa057cd0d7a99b852011f7a1e74ba79cca4c12e82ea4dc577dde6a", func := "loop.example/milldam/laws.FnExactRowLess", spec := "fnExactRowLess", apart := false }
def FnExactRowLessSaid : Prop := fnExactRowLessRow.holds Try.pinned (OpenSpec.ofChange fnExactRowLessSpec)

/-- ITS FALSE NEIGHBOUR: 'it returns false'. Refute it at one input. -/
def fnExactRowLessWrong : ChangeSpec := { name := "fnExactRowLess", fn := fun _ => fun
  | [d1, d2] => { results := [.lit (.bool false)], args := [d1, d2] }
  | _ => none }
def FnExactRowLessWrongFalsely : Prop := fnExactRowLessRow.holds Try.pinned (OpenSpec.ofChange fnExactRowLessWrong)

/-- 'laws.FnRowJoin': WHATEVER THE INPUT: true; the input reads as it did. -/
def fnRowJoinSpec : ChangeSpec := { name := "fnRowJoin", fn := fun _ => fun
  | [d1, d2] => { results := [.lit (.bool true)], args := [d1, d2] }
  | _ => none }
def fnRowJoinRow : OpenClaim := { program := "ytjajepomgbpjpaa", sum := "80a50f1526aa057cd0d7a99b852011f7a1e74ba79cca4c12e82ea4dc577dde6a", func := "loop.example/milldam/laws.FnRowJoin", spec := "fnRowJoin", apart := false }
def FnRowJoinSaid : Prop := fnRowJoinRow.holds Try.pinned (OpenSpec.ofChange fnRowJoinSpec)

/-- ITS FALSE NEIGHBOUR: 'it returns false'. Refute it at one input. -/
def fnRowJoinWrong : ChangeSpec := { name := "fnRowJoin", fn := fun _ => fun
  | [d1, d2] => { results := [.lit (.bool false)], args := [d1, d2] }
  | _ => none }
def FnRowJoinWrongFalsely : Prop := fnRowJoinRow.holds Try.pinned (OpenSpec.ofChange fnRowJoinWrong)

/-- 'laws.FnRowBent': WHATEVER THE INPUT: true; the input reads as it did. -/
def fnRowBentSpec : ChangeSpec := { name := "fnRowBent", fn := fun _ => fun
  | [d] => { results := [.lit (.bool true)], args := [d] }
  | _ => none }
def fnRowBentRow : OpenClaim := { program := "ytjajepomgbpjpaa", sum := "80a50f1526aa057cd0d7a99b852011f7a1e74ba79cca4c12e82ea4dc577dde6a", func := "loop.example/milldam/laws.FnRowBent", spec := "fnRowBent", unfollowed := true, recurses := true, apart := false }
def FnRowBentSaid : Prop := fnRowBentRow.holds Try.pinned (OpenSpec.ofChange fnRowBentSpec)

/-- ITS FALSE NEIGHBOUR: 'it returns false'. Refute it at one input. -/
def fnRowBentWrong : ChangeSpec := { name := "fnRowBent", fn := fun _ => fun
  | [d] => { results := [.lit (.bool false)], args := [d] }
  | _ => none }
def FnRowBentWrongFalsely : Prop := fnRowBentRow.holds Try.pinned (OpenSpec.ofChange fnRowBentWrong)

/-- 'laws.FnExactZSame': WHATEVER THE INPUT: true; the input reads as it did. -/
def fnExactZSameSpec : ChangeSpec := { name := "fnExactZSame", fn := fun _ => fun
  | [d1, d2] => { results := [.lit (.bool true)], args := [d1, d2] }
  | _ => none }
def fnExactZSameRow : OpenClaim := { program := "ytjajepomgbpjpaa", sum := "80a50f1526aa057cd0d7a99b852011f7a1e74ba79cca4c12e82ea4dc577dde6a", func := "loop.example/milldam/laws.FnExactZSame", spec := "fnExactZSame", unfollowed := true, recurses := true, apart := false }
def FnExactZSameSaid : Prop := fnExactZSameRow.holds Try.pinned (OpenSpec.ofChange fnExactZSameSpec)

/-- ITS FALSE NEIGHBOUR: 'it returns false'. Refute it at one input. -/
def fnExactZSameWrong : ChangeSpec := { name := "fnExactZSame", fn := fun _ => fun
  | [d1, d2] => { results := [.lit (.bool false)], args := [d1, d2] }
  | _ => none }
def FnExactZSameWrongFalsely : Prop := fnExactZSameRow.holds Try.pinned (OpenSpec.ofChange fnExactZSameWrong)

/- THE SECOND FORM. 'bulk': how many values and letters a reading holds, each counted each time it is reached (what is shared counts as often as it is met; a slice's spare places count too). A statement '..UptoSaid' is the law's where the arguments, and the package variables that the reading takes, are together of bulk at most 1048576: NARROWER than '..Said'. Prove '..Said' where nothing that the law and all that it calls make is longer than what came in: it says more and counts as full. Else prove '..UptoSaid'. A law counts once. -/
mutual
def uptoBulk {H : Type} : DataW H → Nat
  | .lit (.string bytes) => bytes.length + 1
  | .lit _ => 1
  | .nil => 1
  | .ptr d => uptoBulk d + 1
  | .slice elems spare => uptoBulkAll elems + uptoBulkAll spare + 1
  | .agg parts => uptoBulkAll parts + 1
  | .iface _ d => uptoBulk d + 1
  | .map entries => uptoBulkEntries entries + 1
  | .held _ => 1
def uptoBulkAll {H : Type} : List (DataW H) → Nat
  | [] => 0
  | d :: r => uptoBulk d + uptoBulkAll r
def uptoBulkEntries {H : Type} : List (Lit × DataW H) → Nat
  | [] => 0
  | x :: r => uptoBulkEntry x + uptoBulkEntries r
def uptoBulkEntry {H : Type} : Lit × DataW H → Nat
  | (.string bytes, d) => bytes.length + uptoBulk d + 1
  | (_, d) => uptoBulk d + 1
 end
def uptoSmall : (H : Type) → List (DataW H) → Bool := fun _ ds => decide (uptoBulkAll ds ≤ 1048576)
def OpenSpec.upto (s : _root_.Go.ChangeSpec) : _root_.Go.OpenSpec := { _root_.Go.OpenSpec.ofChange s with cond := some uptoSmall }

/-- 'laws.FnExactConstants', WHERE WHAT IT READS IS OF BULK AT MOST 1048576: true; the input reads as it did. -/
def fnExactConstantsUptoRow : OpenClaim := { program := "ytjajepomgbpjpaa", sum := "80a50f1526aa057cd0d7a99b852011f7a1e74ba79cca4c12e82ea4dc577dde6a", func := "loop.example/milldam/laws.FnExactConstants", spec := "fnExactConstants", apart := false, narrowed := true }
def FnExactConstantsUptoSaid : Prop := fnExactConstantsUptoRow.holds Try.pinned (OpenSpec.upto fnExactConstantsSpec)

/-- 'laws.FnExactRowSame', WHERE WHAT IT READS IS OF BULK AT MOST 1048576: true; the input reads as it did. -/
def fnExactRowSameUptoRow : OpenClaim := { program := "ytjajepomgbpjpaa", sum := "80a50f1526aa057cd0d7a99b852011f7a1e74ba79cca4c12e82ea4dc577dde6a", func := "loop.example/milldam/laws.FnExactRowSame", spec := "fnExactRowSame", apart := false, narrowed := true }
def FnExactRowSameUptoSaid : Prop := fnExactRowSameUptoRow.holds Try.pinned (OpenSpec.upto fnExactRowSameSpec)

/-- 'laws.FnExactRowOk', WHERE WHAT IT READS IS OF BULK AT MOST 1048576: true; the input reads as it did. -/
def fnExactRowOkUptoRow : OpenClaim := { program := "ytjajepomgbpjpaa", sum := "80a50f1526aa057cd0d7a99b852011f7a1e74ba79cca4c12e82ea4dc577dde6a", func := "loop.example/milldam/laws.FnExactRowOk", spec := "fnExactRowOk", unfollowed := true, recurses := true, apart := false, narrowed := true }
def FnExactRowOkUptoSaid : Prop := fnExactRowOkUptoRow.holds Try.pinned (OpenSpec.upto fnExactRowOkSpec)

/-- 'laws.FnExactCellOk', WHERE WHAT IT READS IS OF BULK AT MOST 1048576: true; the input reads as it did. -/
def fnExactCellOkUptoRow : OpenClaim := { program := "ytjajepomgbpjpaa", sum := "80a50f1526aa057cd0d7a99b852011f7a1e74ba79cca4c12e82ea4dc577dde6a", func := "loop.example/milldam/laws.FnExactCellOk", spec := "fnExactCellOk", unfollowed := true, recurses := true, apart := false, narrowed := true }
def FnExactCellOkUptoSaid : Prop := fnExactCellOkUptoRow.holds Try.pinned (OpenSpec.upto fnExactCellOkSpec)

/-- 'laws.FnExactTestOk', WHERE WHAT IT READS IS OF BULK AT MOST 1048576: true; the input reads as it did. -/
def fnExactTestOkUptoRow : OpenClaim := { program := "ytjajepomgbpjpaa", sum := "80a50f1526aa057cd0d7a99b852011f7a1e74ba79cca4c12e82ea4dc577dde6a", func := "loop.example/milldam/laws.FnExactTestOk", spec := "fnExactTestOk", unfollowed := true, recurses := true, apart := false, narrowed := true }
def FnExactTestOkUptoSaid : Prop := fnExactTestOkUptoRow.holds Try.pinned (OpenSpec.upto fnExactTestOkSpec)

/-- 'laws.FnExactRowJoin', WHERE WHAT IT READS IS OF BULK AT MOST 1048576: true; the input reads as it did. -/
def fnExactRowJoinUptoRow : OpenClaim := { program := "ytjajepomgbpjpaa", sum := "80a50f1526aa057cd0d7a99b852011f7a1e74ba79cca4c12e82ea4dc577dde6a", func := "loop.example/milldam/laws.FnExactRowJoin", spec := "fnExactRowJoin", apart := false, narrowed := true }
def FnExactRowJoinUptoSaid : Prop := fnExactRowJoinUptoRow.holds Try.pinned (OpenSpec.upto fnExactRowJoinSpec)

/-- 'laws.FnExactRowLess', WHERE WHAT IT READS IS OF BULK AT MOST 1048576: true; the input reads as it did. -/
def fnExactRowLessUptoRow : OpenClaim := { program := "ytjajepomgbpjpaa", sum := "80a50f1526aa057cd0d7a99b852011f7a1e74ba79cca4c12e82ea4dc577dde6a", func := "loop.example/milldam/laws.FnExactRowLess", spec := "fnExactRowLess", apart := false, narrowed := true }
def FnExactRowLessUptoSaid : Prop := fnExactRowLessUptoRow.holds Try.pinned (OpenSpec.upto fnExactRowLessSpec)

/-- 'laws.FnRowJoin', WHERE WHAT IT READS IS OF BULK AT MOST 1048576: true; the input reads as it did. -/
def fnRowJoinUptoRow : OpenClaim := { program := "ytjajepomgbpjpaa", sum := "80a50f1526aa057cd0d7a99b852011f7a1e74ba79cca4c12e82ea4dc577dde6a", func := "loop.example/milldam/laws.FnRowJoin", spec := "fnRowJoin", apart := false, narrowed := true }
def FnRowJoinUptoSaid : Prop := fnRowJoinUptoRow.holds Try.pinned (OpenSpec.upto fnRowJoinSpec)

/-- 'laws.FnRowBent', WHERE WHAT IT READS IS OF BULK AT MOST 1048576: true; the input reads as it did. -/
def fnRowBentUptoRow : OpenClaim := { program := "ytjajepomgbpjpaa", sum := "80a50f1526aa057cd0d7a99b852011f7a1e74ba79cca4c12e82ea4dc577dde6a", func := "loop.example/milldam/laws.FnRowBent", spec := "fnRowBent", unfollowed := true, recurses := true, apart := false, narrowed := true }
def FnRowBentUptoSaid : Prop := fnRowBentUptoRow.holds Try.pinned (OpenSpec.upto fnRowBentSpec)

/-- 'laws.FnExactZSame', WHERE WHAT IT READS IS OF BULK AT MOST 1048576: true; the input reads as it did. -/
def fnExactZSameUptoRow : OpenClaim := { program := "ytjajepomgbpjpaa", sum := "80a50f1526aa057cd0d7a99b852011f7a1e74ba79cca4c12e82ea4dc577dde6a", func := "loop.example/milldam/laws.FnExactZSame", spec := "fnExactZSame", unfollowed := true, recurses := true, apart := false, narrowed := true }
def FnExactZSameUptoSaid : Prop := fnExactZSameUptoRow.holds Try.pinned (OpenSpec.upto fnExactZSameSpec)

end Rows
end Go.Proofs.Ytjajepomgbpjpaa
