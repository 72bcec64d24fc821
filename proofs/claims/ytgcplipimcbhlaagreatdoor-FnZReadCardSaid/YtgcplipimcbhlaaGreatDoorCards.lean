/-
  DERIVED. GIVEN WITH THE SEED: THE CARDS: each row of YtgcplipimcbhlaaGreatDoorRows.lean that lists a variable, with what it lists TIED to the program's text (the seventh form; the later family's looks); each row that meets fmt, with fmt's text TOLD by the authors' own Lean function (tested against real Go, not proved from fmt's source: count such statements apart). THE CARD IS WHAT COUNTS. Prove the row's statement (the work); the ties are given (YtgcplipimcbhlaaGreatDoorTie.lean); close each card by the builder's one call (the guide's Derived/Test/ToyasCard.lean, 'card_holds'). Laid BY PROGRAM, IN A SANDBOX (cutbox-door.mjs). By AI agents, Wed Nov 11 2026. No macro, syntax, notation, axiom, sorry.
-/
import Derived.Test.YtgcplipimcbhlaaGreatDoorRows
import GoSem.ClaimSeven
namespace Go.Proofs.YtgcplipimcbhlaaGreatDoor
namespace Rows

/-- THE TIED CARD OF 'laws.FnZRead'. -/
def fnZReadCard : Claim7 := { stood := { row := fnZReadRow, standIns := [], harness := (true, "f9afc58d3337fe10444a6f37b4a67174a3b76a19da20b9705998e7f1fcebb755"), looks := true }, kinds := [], alts := [], laidByText := true, laidKinds := [.data, .data, .data, .data, .sentinel, .sentinel, .pinned], laidTests := true, laidLooks := .later }
def FnZReadCardSaid : Prop := Claim7.holds Tryz.pinned (.plain (OpenSpec.ofChange fnZReadSpec)) fnZReadCard

/-- THE TIED CARD OF 'laws.FnZText'. -/
def fnZTextCard : Claim7 := { stood := { row := fnZTextRow, standIns := [], harness := (true, "f9afc58d3337fe10444a6f37b4a67174a3b76a19da20b9705998e7f1fcebb755"), looks := true }, kinds := [], alts := [], laidByText := true, laidKinds := [.data, .data, .data, .data, .sentinel, .sentinel, .pinned], laidTests := true, laidLooks := .later }
def FnZTextCardSaid : Prop := Claim7.holds Tryz.pinned (.plain (OpenSpec.ofChange fnZTextSpec)) fnZTextCard

/-- THE SECOND FORM's CARD OF 'laws.FnZRead'. -/
def fnZReadUptoCard : Claim7 := { stood := { row := fnZReadUptoRow, standIns := [], harness := (true, "f9afc58d3337fe10444a6f37b4a67174a3b76a19da20b9705998e7f1fcebb755"), looks := true }, kinds := [], alts := [], laidByText := true, laidKinds := [.data, .data, .data, .data, .sentinel, .sentinel, .pinned], laidTests := true, laidLooks := .later }
def FnZReadUptoCardSaid : Prop := Claim7.holds Tryz.pinned (.plain (OpenSpec.upto fnZReadSpec)) fnZReadUptoCard

/-- THE SECOND FORM's CARD OF 'laws.FnZText'. -/
def fnZTextUptoCard : Claim7 := { stood := { row := fnZTextUptoRow, standIns := [], harness := (true, "f9afc58d3337fe10444a6f37b4a67174a3b76a19da20b9705998e7f1fcebb755"), looks := true }, kinds := [], alts := [], laidByText := true, laidKinds := [.data, .data, .data, .data, .sentinel, .sentinel, .pinned], laidTests := true, laidLooks := .later }
def FnZTextUptoCardSaid : Prop := Claim7.holds Tryz.pinned (.plain (OpenSpec.upto fnZTextSpec)) fnZTextUptoCard
end Rows
end Go.Proofs.YtgcplipimcbhlaaGreatDoor
