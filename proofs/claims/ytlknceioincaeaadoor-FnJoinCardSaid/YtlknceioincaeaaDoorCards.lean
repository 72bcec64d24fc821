/-
  DERIVED. GIVEN WITH THE SEED: THE CARDS: each row of YtlknceioincaeaaDoorRows.lean that lists a variable, with what it lists TIED to the program's text (the seventh form; the later family's looks); each row that meets fmt, with fmt's text TOLD by the authors' own Lean function (tested against real Go, not proved from fmt's source: count such statements apart). THE CARD IS WHAT COUNTS. Prove the row's statement (the work); the ties are given (YtlknceioincaeaaDoorTie.lean); close each card by the builder's one call (the guide's Derived/Test/ToyasCard.lean, 'card_holds'). Laid BY PROGRAM, IN A SANDBOX (cutbox-door.mjs). By AI agents, Wed Nov 11 2026. No macro, syntax, notation, axiom, sorry.
-/
import Derived.Test.YtlknceioincaeaaDoorRows
import GoSem.ClaimSeven
namespace Go.Proofs.YtlknceioincaeaaDoor
namespace Rows

/-- THE TIED CARD OF 'laws.FnJoinThree'. -/
def fnJoinThreeCard : Claim7 := { stood := { row := fnJoinThreeRow, standIns := [], harness := (true, "20aa1f5a85afa556b9bb1f9c4db9e892ba62653681ad9041368232913f9fb421"), looks := false }, kinds := [], alts := [], laidByText := true, laidKinds := [.data, .data, .data], laidTests := true, laidLooks := .later }
def FnJoinThreeCardSaid : Prop := Claim7.holds Tryd.pinned (.plain (OpenSpec.ofChange fnJoinThreeSpec)) fnJoinThreeCard

/-- THE TIED CARD OF 'laws.FnJoinSwap'. -/
def fnJoinSwapCard : Claim7 := { stood := { row := fnJoinSwapRow, standIns := [], harness := (true, "20aa1f5a85afa556b9bb1f9c4db9e892ba62653681ad9041368232913f9fb421"), looks := false }, kinds := [], alts := [], laidByText := true, laidKinds := [.data, .data, .data], laidTests := true, laidLooks := .later }
def FnJoinSwapCardSaid : Prop := Claim7.holds Tryd.pinned (.plain (OpenSpec.ofChange fnJoinSwapSpec)) fnJoinSwapCard

/-- THE TIED CARD OF 'laws.FnExactJoinOf'. -/
def fnExactJoinOfCard : Claim7 := { stood := { row := fnExactJoinOfRow, standIns := [], harness := (true, "20aa1f5a85afa556b9bb1f9c4db9e892ba62653681ad9041368232913f9fb421"), looks := false }, kinds := [], alts := [], laidByText := true, laidKinds := [.data, .data, .data], laidTests := true, laidLooks := .later }
def FnExactJoinOfCardSaid : Prop := Claim7.holds Tryd.pinned (.plain (OpenSpec.ofChange fnExactJoinOfSpec)) fnExactJoinOfCard

/-- THE TIED CARD OF 'laws.FnJoin'. -/
def fnJoinCard : Claim7 := { stood := { row := fnJoinRow, standIns := [], harness := (true, "20aa1f5a85afa556b9bb1f9c4db9e892ba62653681ad9041368232913f9fb421"), looks := false }, kinds := [], alts := [], laidByText := true, laidKinds := [.data, .data, .data], laidTests := true, laidLooks := .later }
def FnJoinCardSaid : Prop := Claim7.holds Tryd.pinned (.plain (OpenSpec.ofChange fnJoinSpec)) fnJoinCard

/-- THE SECOND FORM's CARD OF 'laws.FnJoinThree'. -/
def fnJoinThreeUptoCard : Claim7 := { stood := { row := fnJoinThreeUptoRow, standIns := [], harness := (true, "20aa1f5a85afa556b9bb1f9c4db9e892ba62653681ad9041368232913f9fb421"), looks := false }, kinds := [], alts := [], laidByText := true, laidKinds := [.data, .data, .data], laidTests := true, laidLooks := .later }
def FnJoinThreeUptoCardSaid : Prop := Claim7.holds Tryd.pinned (.plain (OpenSpec.upto fnJoinThreeSpec)) fnJoinThreeUptoCard

/-- THE SECOND FORM's CARD OF 'laws.FnJoinSwap'. -/
def fnJoinSwapUptoCard : Claim7 := { stood := { row := fnJoinSwapUptoRow, standIns := [], harness := (true, "20aa1f5a85afa556b9bb1f9c4db9e892ba62653681ad9041368232913f9fb421"), looks := false }, kinds := [], alts := [], laidByText := true, laidKinds := [.data, .data, .data], laidTests := true, laidLooks := .later }
def FnJoinSwapUptoCardSaid : Prop := Claim7.holds Tryd.pinned (.plain (OpenSpec.upto fnJoinSwapSpec)) fnJoinSwapUptoCard

/-- THE SECOND FORM's CARD OF 'laws.FnExactJoinOf'. -/
def fnExactJoinOfUptoCard : Claim7 := { stood := { row := fnExactJoinOfUptoRow, standIns := [], harness := (true, "20aa1f5a85afa556b9bb1f9c4db9e892ba62653681ad9041368232913f9fb421"), looks := false }, kinds := [], alts := [], laidByText := true, laidKinds := [.data, .data, .data], laidTests := true, laidLooks := .later }
def FnExactJoinOfUptoCardSaid : Prop := Claim7.holds Tryd.pinned (.plain (OpenSpec.upto fnExactJoinOfSpec)) fnExactJoinOfUptoCard

/-- THE SECOND FORM's CARD OF 'laws.FnJoin'. -/
def fnJoinUptoCard : Claim7 := { stood := { row := fnJoinUptoRow, standIns := [], harness := (true, "20aa1f5a85afa556b9bb1f9c4db9e892ba62653681ad9041368232913f9fb421"), looks := false }, kinds := [], alts := [], laidByText := true, laidKinds := [.data, .data, .data], laidTests := true, laidLooks := .later }
def FnJoinUptoCardSaid : Prop := Claim7.holds Tryd.pinned (.plain (OpenSpec.upto fnJoinSpec)) fnJoinUptoCard
end Rows
end Go.Proofs.YtlknceioincaeaaDoor
