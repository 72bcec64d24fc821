/-
  DERIVED. GIVEN WITH THE SEED: THE CARDS: each row of YthmcbekemnabdaaDoorRows.lean that lists a variable, with what it lists TIED to the program's text (the seventh form; the later family's looks); each row that meets fmt, with fmt's text TOLD by the authors' own Lean function (tested against real Go, not proved from fmt's source: count such statements apart). THE CARD IS WHAT COUNTS. Prove the row's statement (the work); the ties are given (YthmcbekemnabdaaDoorTie.lean); close each card by the builder's one call (the guide's Derived/Test/ToyasCard.lean, 'card_holds'). Laid BY PROGRAM, IN A SANDBOX (cutbox-door.mjs). By AI agents, Wed Nov 11 2026. No macro, syntax, notation, axiom, sorry.
-/
import Derived.Test.YthmcbekemnabdaaDoorRows
import GoSem.ClaimSeven
namespace Go.Proofs.YthmcbekemnabdaaDoor
namespace Rows

/-- THE TIED CARD OF 'laws.FnExactCellRead'. -/
def fnExactCellReadCard : Claim7 := { stood := { row := fnExactCellReadRow, standIns := [], harness := (true, "833e1f7be349c7312824b55b0c1c88ca97ed7a199f9bd9f365f2fbb92d2eede3"), looks := true }, kinds := [], alts := [], laidByText := true, laidKinds := [.data, .data, .data, .sentinel, .sentinel], laidTests := true, laidLooks := .later }
def FnExactCellReadCardSaid : Prop := Claim7.holds Tryd.pinned (.plain (OpenSpec.ofChange fnExactCellReadSpec)) fnExactCellReadCard

/-- THE TIED CARD OF 'laws.FnExactTestRead'. -/
def fnExactTestReadCard : Claim7 := { stood := { row := fnExactTestReadRow, standIns := [], harness := (true, "833e1f7be349c7312824b55b0c1c88ca97ed7a199f9bd9f365f2fbb92d2eede3"), looks := true }, kinds := [], alts := [], laidByText := true, laidKinds := [.data, .data, .data, .sentinel, .sentinel], laidTests := true, laidLooks := .later }
def FnExactTestReadCardSaid : Prop := Claim7.holds Tryd.pinned (.plain (OpenSpec.ofChange fnExactTestReadSpec)) fnExactTestReadCard

/-- THE SECOND FORM's CARD OF 'laws.FnExactCellRead'. -/
def fnExactCellReadUptoCard : Claim7 := { stood := { row := fnExactCellReadUptoRow, standIns := [], harness := (true, "833e1f7be349c7312824b55b0c1c88ca97ed7a199f9bd9f365f2fbb92d2eede3"), looks := true }, kinds := [], alts := [], laidByText := true, laidKinds := [.data, .data, .data, .sentinel, .sentinel], laidTests := true, laidLooks := .later }
def FnExactCellReadUptoCardSaid : Prop := Claim7.holds Tryd.pinned (.plain (OpenSpec.upto fnExactCellReadSpec)) fnExactCellReadUptoCard

/-- THE SECOND FORM's CARD OF 'laws.FnExactTestRead'. -/
def fnExactTestReadUptoCard : Claim7 := { stood := { row := fnExactTestReadUptoRow, standIns := [], harness := (true, "833e1f7be349c7312824b55b0c1c88ca97ed7a199f9bd9f365f2fbb92d2eede3"), looks := true }, kinds := [], alts := [], laidByText := true, laidKinds := [.data, .data, .data, .sentinel, .sentinel], laidTests := true, laidLooks := .later }
def FnExactTestReadUptoCardSaid : Prop := Claim7.holds Tryd.pinned (.plain (OpenSpec.upto fnExactTestReadSpec)) fnExactTestReadUptoCard
end Rows
end Go.Proofs.YthmcbekemnabdaaDoor
