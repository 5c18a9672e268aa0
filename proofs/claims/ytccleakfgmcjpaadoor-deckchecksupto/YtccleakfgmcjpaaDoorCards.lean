/-
  DERIVED. GIVEN WITH THE SEED: THE CARDS: each row of YtccleakfgmcjpaaDoorRows.lean that lists a variable, with what it lists TIED to the program's text (the seventh form; the later family's looks); each row that meets fmt, with fmt's text TOLD by the authors' own Lean function (tested against real Go, not proved from fmt's source: count such statements apart). THE CARD IS WHAT COUNTS. Prove the row's statement (the work); the ties are given (YtccleakfgmcjpaaDoorTie.lean); close each card by the builder's one call (the guide's Derived/Test/ToyasCard.lean, 'card_holds'). Laid BY PROGRAM, IN A SANDBOX (cutbox-door.mjs). By AI agents, Wed Nov 11 2026. No macro, syntax, notation, axiom, sorry.
-/
import Derived.Test.YtccleakfgmcjpaaDoorRows
import GoSem.ClaimSeven
namespace Go.Proofs.YtccleakfgmcjpaaDoor
namespace Rows

/-- THE TIED CARD OF 'baizelaw16.DeckChecks'. -/
def deckChecksCard : Claim7 := { stood := { row := deckChecksRow, standIns := [], harness := (true, "911e2f15d66cf51f599adaab5fa212ff812d36a02e93eeb1bc21be4aba764fb2"), looks := false }, kinds := [], alts := [], laidByText := true, laidKinds := [.data, .data, .data], laidTests := true, laidLooks := .later }
def DeckChecksCardSaid : Prop := Claim7.holds Tryd.pinned (.plain (OpenSpec.ofChange deckChecksSpec)) deckChecksCard

/-- THE TIED CARD OF 'baizelaw16.DeckLess'. -/
def deckLessCard : Claim7 := { stood := { row := deckLessRow, standIns := [], harness := (true, "911e2f15d66cf51f599adaab5fa212ff812d36a02e93eeb1bc21be4aba764fb2"), looks := false }, kinds := [], alts := [], laidByText := true, laidKinds := [.data, .data, .data], laidTests := true, laidLooks := .later }
def DeckLessCardSaid : Prop := Claim7.holds Tryd.pinned (.plain (OpenSpec.ofChange deckLessSpec)) deckLessCard

/-- THE TIED CARD OF 'baizelaw16.DeckPlaces'. -/
def deckPlacesCard : Claim7 := { stood := { row := deckPlacesRow, standIns := [], harness := (true, "911e2f15d66cf51f599adaab5fa212ff812d36a02e93eeb1bc21be4aba764fb2"), looks := false }, kinds := [], alts := [], laidByText := true, laidKinds := [.data, .data, .data], laidTests := true, laidLooks := .later }
def DeckPlacesCardSaid : Prop := Claim7.holds Tryd.pinned (.plain (OpenSpec.ofChange deckPlacesSpec)) deckPlacesCard

/-- THE TIED CARD OF 'baizelaw16.DeckNames'. -/
def deckNamesCard : Claim7 := { stood := { row := deckNamesRow, standIns := [], harness := (true, "911e2f15d66cf51f599adaab5fa212ff812d36a02e93eeb1bc21be4aba764fb2"), looks := false }, kinds := [], alts := [], laidByText := true, laidKinds := [.data, .data, .data], laidTests := true, laidLooks := .later }
def DeckNamesCardSaid : Prop := Claim7.holds Tryd.pinned (.plain (OpenSpec.ofChange deckNamesSpec)) deckNamesCard

/-- THE SECOND FORM's CARD OF 'baizelaw16.DeckChecks'. -/
def deckChecksUptoCard : Claim7 := { stood := { row := deckChecksUptoRow, standIns := [], harness := (true, "911e2f15d66cf51f599adaab5fa212ff812d36a02e93eeb1bc21be4aba764fb2"), looks := false }, kinds := [], alts := [], laidByText := true, laidKinds := [.data, .data, .data], laidTests := true, laidLooks := .later }
def DeckChecksUptoCardSaid : Prop := Claim7.holds Tryd.pinned (.plain (OpenSpec.upto deckChecksSpec)) deckChecksUptoCard

/-- THE SECOND FORM's CARD OF 'baizelaw16.DeckLess'. -/
def deckLessUptoCard : Claim7 := { stood := { row := deckLessUptoRow, standIns := [], harness := (true, "911e2f15d66cf51f599adaab5fa212ff812d36a02e93eeb1bc21be4aba764fb2"), looks := false }, kinds := [], alts := [], laidByText := true, laidKinds := [.data, .data, .data], laidTests := true, laidLooks := .later }
def DeckLessUptoCardSaid : Prop := Claim7.holds Tryd.pinned (.plain (OpenSpec.upto deckLessSpec)) deckLessUptoCard

/-- THE SECOND FORM's CARD OF 'baizelaw16.DeckPlaces'. -/
def deckPlacesUptoCard : Claim7 := { stood := { row := deckPlacesUptoRow, standIns := [], harness := (true, "911e2f15d66cf51f599adaab5fa212ff812d36a02e93eeb1bc21be4aba764fb2"), looks := false }, kinds := [], alts := [], laidByText := true, laidKinds := [.data, .data, .data], laidTests := true, laidLooks := .later }
def DeckPlacesUptoCardSaid : Prop := Claim7.holds Tryd.pinned (.plain (OpenSpec.upto deckPlacesSpec)) deckPlacesUptoCard

/-- THE SECOND FORM's CARD OF 'baizelaw16.DeckNames'. -/
def deckNamesUptoCard : Claim7 := { stood := { row := deckNamesUptoRow, standIns := [], harness := (true, "911e2f15d66cf51f599adaab5fa212ff812d36a02e93eeb1bc21be4aba764fb2"), looks := false }, kinds := [], alts := [], laidByText := true, laidKinds := [.data, .data, .data], laidTests := true, laidLooks := .later }
def DeckNamesUptoCardSaid : Prop := Claim7.holds Tryd.pinned (.plain (OpenSpec.upto deckNamesSpec)) deckNamesUptoCard
end Rows
end Go.Proofs.YtccleakfgmcjpaaDoor
