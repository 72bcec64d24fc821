/-
  DERIVED. GIVEN WITH THE SEED: THE CARDS: each row of YtgcplipimcbhlaaDoorRows.lean that lists a variable, with what it lists TIED to the program's text (the seventh form; the later family's looks); each row that meets fmt, with fmt's text TOLD by the authors' own Lean function (tested against real Go, not proved from fmt's source: count such statements apart). THE CARD IS WHAT COUNTS. Prove the row's statement (the work); the ties are given (YtgcplipimcbhlaaDoorTie.lean); close each card by the builder's one call (the guide's Derived/Test/ToyasCard.lean, 'card_holds'). Laid BY PROGRAM, IN A SANDBOX (cutbox-door.mjs). By AI agents, Wed Nov 11 2026. No macro, syntax, notation, axiom, sorry.
-/
import Derived.Test.YtgcplipimcbhlaaDoorRows
import GoSem.ClaimSeven
namespace Go.Proofs.YtgcplipimcbhlaaDoor
namespace Rows

/-- THE TIED CARD OF 'laws.FnExactZRead'. -/
def fnExactZReadCard : Claim7 := { stood := { row := fnExactZReadRow, standIns := [], harness := (true, "025cda73a6af872bdf6741f4b41e8666ed846776c1bc50e1e77b2e458440cfa0"), looks := true }, kinds := [], alts := [], laidByText := true, laidKinds := [.data, .data, .data, .data, .sentinel, .sentinel, .pinned], laidTests := true, laidLooks := .later }
def FnExactZReadCardSaid : Prop := Claim7.holds Tryd.pinned (.plain (OpenSpec.ofChange fnExactZReadSpec)) fnExactZReadCard

/-- THE TIED CARD OF 'laws.FnExactRowText'. -/
def fnExactRowTextCard : Claim7 := { stood := { row := fnExactRowTextRow, standIns := [], harness := (true, "025cda73a6af872bdf6741f4b41e8666ed846776c1bc50e1e77b2e458440cfa0"), looks := true }, kinds := [], alts := [], laidByText := true, laidKinds := [.data, .data, .data], laidTests := true, laidLooks := .later }
def FnExactRowTextCardSaid : Prop := Claim7.holds Tryd.pinned (.plain (OpenSpec.ofChange fnExactRowTextSpec)) fnExactRowTextCard

/-- THE TIED CARD OF 'laws.FnExactZText'. -/
def fnExactZTextCard : Claim7 := { stood := { row := fnExactZTextRow, standIns := [], harness := (true, "025cda73a6af872bdf6741f4b41e8666ed846776c1bc50e1e77b2e458440cfa0"), looks := true }, kinds := [], alts := [], laidByText := true, laidKinds := [.data, .data, .data], laidTests := true, laidLooks := .later }
def FnExactZTextCardSaid : Prop := Claim7.holds Tryd.pinned (.plain (OpenSpec.ofChange fnExactZTextSpec)) fnExactZTextCard

/-- THE TIED CARD OF 'laws.FnZOrder'. -/
def fnZOrderCard : Claim7 := { stood := { row := fnZOrderRow, standIns := [], harness := (true, "025cda73a6af872bdf6741f4b41e8666ed846776c1bc50e1e77b2e458440cfa0"), looks := true }, kinds := [], alts := [], laidByText := true, laidKinds := [.data, .data, .data], laidTests := true, laidLooks := .later }
def FnZOrderCardSaid : Prop := Claim7.holds Tryd.pinned (.plain (OpenSpec.ofChange fnZOrderSpec)) fnZOrderCard

/-- THE TIED CARD OF 'laws.FnExactRowRead'. -/
def fnExactRowReadCard : Claim7 := { stood := { row := fnExactRowReadRow, standIns := [], harness := (true, "025cda73a6af872bdf6741f4b41e8666ed846776c1bc50e1e77b2e458440cfa0"), looks := true }, kinds := [], alts := [], laidByText := true, laidKinds := [.data, .data, .data, .sentinel, .sentinel], laidTests := true, laidLooks := .later }
def FnExactRowReadCardSaid : Prop := Claim7.holds Tryd.pinned (.plain (OpenSpec.ofChange fnExactRowReadSpec)) fnExactRowReadCard

/-- THE TIED CARD OF 'laws.FnRow'. -/
def fnRowCard : Claim7 := { stood := { row := fnRowRow, standIns := [], harness := (true, "025cda73a6af872bdf6741f4b41e8666ed846776c1bc50e1e77b2e458440cfa0"), looks := true }, kinds := [], alts := [], laidByText := true, laidKinds := [.data, .data, .data, .sentinel, .sentinel], laidTests := true, laidLooks := .later }
def FnRowCardSaid : Prop := Claim7.holds Tryd.pinned (.plain (OpenSpec.ofChange fnRowSpec)) fnRowCard

/-- THE SECOND FORM's CARD OF 'laws.FnExactZRead'. -/
def fnExactZReadUptoCard : Claim7 := { stood := { row := fnExactZReadUptoRow, standIns := [], harness := (true, "025cda73a6af872bdf6741f4b41e8666ed846776c1bc50e1e77b2e458440cfa0"), looks := true }, kinds := [], alts := [], laidByText := true, laidKinds := [.data, .data, .data, .data, .sentinel, .sentinel, .pinned], laidTests := true, laidLooks := .later }
def FnExactZReadUptoCardSaid : Prop := Claim7.holds Tryd.pinned (.plain (OpenSpec.upto fnExactZReadSpec)) fnExactZReadUptoCard

/-- THE SECOND FORM's CARD OF 'laws.FnExactRowText'. -/
def fnExactRowTextUptoCard : Claim7 := { stood := { row := fnExactRowTextUptoRow, standIns := [], harness := (true, "025cda73a6af872bdf6741f4b41e8666ed846776c1bc50e1e77b2e458440cfa0"), looks := true }, kinds := [], alts := [], laidByText := true, laidKinds := [.data, .data, .data], laidTests := true, laidLooks := .later }
def FnExactRowTextUptoCardSaid : Prop := Claim7.holds Tryd.pinned (.plain (OpenSpec.upto fnExactRowTextSpec)) fnExactRowTextUptoCard

/-- THE SECOND FORM's CARD OF 'laws.FnExactZText'. -/
def fnExactZTextUptoCard : Claim7 := { stood := { row := fnExactZTextUptoRow, standIns := [], harness := (true, "025cda73a6af872bdf6741f4b41e8666ed846776c1bc50e1e77b2e458440cfa0"), looks := true }, kinds := [], alts := [], laidByText := true, laidKinds := [.data, .data, .data], laidTests := true, laidLooks := .later }
def FnExactZTextUptoCardSaid : Prop := Claim7.holds Tryd.pinned (.plain (OpenSpec.upto fnExactZTextSpec)) fnExactZTextUptoCard

/-- THE SECOND FORM's CARD OF 'laws.FnZOrder'. -/
def fnZOrderUptoCard : Claim7 := { stood := { row := fnZOrderUptoRow, standIns := [], harness := (true, "025cda73a6af872bdf6741f4b41e8666ed846776c1bc50e1e77b2e458440cfa0"), looks := true }, kinds := [], alts := [], laidByText := true, laidKinds := [.data, .data, .data], laidTests := true, laidLooks := .later }
def FnZOrderUptoCardSaid : Prop := Claim7.holds Tryd.pinned (.plain (OpenSpec.upto fnZOrderSpec)) fnZOrderUptoCard

/-- THE SECOND FORM's CARD OF 'laws.FnExactRowRead'. -/
def fnExactRowReadUptoCard : Claim7 := { stood := { row := fnExactRowReadUptoRow, standIns := [], harness := (true, "025cda73a6af872bdf6741f4b41e8666ed846776c1bc50e1e77b2e458440cfa0"), looks := true }, kinds := [], alts := [], laidByText := true, laidKinds := [.data, .data, .data, .sentinel, .sentinel], laidTests := true, laidLooks := .later }
def FnExactRowReadUptoCardSaid : Prop := Claim7.holds Tryd.pinned (.plain (OpenSpec.upto fnExactRowReadSpec)) fnExactRowReadUptoCard

/-- THE SECOND FORM's CARD OF 'laws.FnRow'. -/
def fnRowUptoCard : Claim7 := { stood := { row := fnRowUptoRow, standIns := [], harness := (true, "025cda73a6af872bdf6741f4b41e8666ed846776c1bc50e1e77b2e458440cfa0"), looks := true }, kinds := [], alts := [], laidByText := true, laidKinds := [.data, .data, .data, .sentinel, .sentinel], laidTests := true, laidLooks := .later }
def FnRowUptoCardSaid : Prop := Claim7.holds Tryd.pinned (.plain (OpenSpec.upto fnRowSpec)) fnRowUptoCard
end Rows
end Go.Proofs.YtgcplipimcbhlaaDoor
