/-
  DERIVED. GIVEN WITH THE SEED: THE CARDS: each row of YtigfdclopkagmaaDoorRows.lean that lists a variable, with what it lists TIED to the program's text (the seventh form; the later family's looks); each row that meets fmt, with fmt's text TOLD by the authors' own Lean function (tested against real Go, not proved from fmt's source: count such statements apart). THE CARD IS WHAT COUNTS. Prove the row's statement (the work); the ties are given (YtigfdclopkagmaaDoorTie.lean); close each card by the builder's one call (the guide's Derived/Test/ToyasCard.lean, 'card_holds'). Laid BY PROGRAM, IN A SANDBOX (cutbox-door.mjs). By AI agents, Wed Nov 11 2026. No macro, syntax, notation, axiom, sorry.
-/
import Derived.Test.YtigfdclopkagmaaDoorRows
import GoSem.ClaimSeven
namespace Go.Proofs.YtigfdclopkagmaaDoor
namespace Rows

/-- THE TIED CARD OF 'baizelaw11.WordsCut'. -/
def wordsCutCard : Claim7 := { stood := { row := wordsCutRow, standIns := [], harness := (true, "ecf51cbdc2c5e810a4c0c24b473a407f60c013b92403a902b97d45d0f1778dba"), looks := false }, kinds := [], alts := [], laidByText := true, laidKinds := [.data, .listed, .data, .pinned], laidTests := true, laidLooks := .later }
def WordsCutCardSaid : Prop := Claim7.holds Tryd.pinned (.plain (OpenSpec.ofChange wordsCutSpec)) wordsCutCard

/-- THE TIED CARD OF 'baizelaw11.WordsParts'. -/
def wordsPartsCard : Claim7 := { stood := { row := wordsPartsRow, standIns := [], harness := (true, "ecf51cbdc2c5e810a4c0c24b473a407f60c013b92403a902b97d45d0f1778dba"), looks := false }, kinds := [], alts := [], laidByText := true, laidKinds := [.data, .listed, .data, .pinned], laidTests := true, laidLooks := .later }
def WordsPartsCardSaid : Prop := Claim7.holds Tryd.pinned (.plain (OpenSpec.ofChange wordsPartsSpec)) wordsPartsCard

/-- THE TIED CARD OF 'baizelaw11.WordsTell'. -/
def wordsTellCard : Claim7 := { stood := { row := wordsTellRow, standIns := [], harness := (true, "ecf51cbdc2c5e810a4c0c24b473a407f60c013b92403a902b97d45d0f1778dba"), looks := false }, kinds := [], alts := [], laidByText := true, laidKinds := [.data, .listed, .data, .pinned], laidTests := true, laidLooks := .later }
def WordsTellCardSaid : Prop := Claim7.holds Tryd.pinned (.plain (OpenSpec.ofChange wordsTellSpec)) wordsTellCard

/-- THE SECOND FORM's CARD OF 'baizelaw11.WordsCut'. -/
def wordsCutUptoCard : Claim7 := { stood := { row := wordsCutUptoRow, standIns := [], harness := (true, "ecf51cbdc2c5e810a4c0c24b473a407f60c013b92403a902b97d45d0f1778dba"), looks := false }, kinds := [], alts := [], laidByText := true, laidKinds := [.data, .listed, .data, .pinned], laidTests := true, laidLooks := .later }
def WordsCutUptoCardSaid : Prop := Claim7.holds Tryd.pinned (.plain (OpenSpec.upto wordsCutSpec)) wordsCutUptoCard

/-- THE SECOND FORM's CARD OF 'baizelaw11.WordsParts'. -/
def wordsPartsUptoCard : Claim7 := { stood := { row := wordsPartsUptoRow, standIns := [], harness := (true, "ecf51cbdc2c5e810a4c0c24b473a407f60c013b92403a902b97d45d0f1778dba"), looks := false }, kinds := [], alts := [], laidByText := true, laidKinds := [.data, .listed, .data, .pinned], laidTests := true, laidLooks := .later }
def WordsPartsUptoCardSaid : Prop := Claim7.holds Tryd.pinned (.plain (OpenSpec.upto wordsPartsSpec)) wordsPartsUptoCard

/-- THE SECOND FORM's CARD OF 'baizelaw11.WordsTell'. -/
def wordsTellUptoCard : Claim7 := { stood := { row := wordsTellUptoRow, standIns := [], harness := (true, "ecf51cbdc2c5e810a4c0c24b473a407f60c013b92403a902b97d45d0f1778dba"), looks := false }, kinds := [], alts := [], laidByText := true, laidKinds := [.data, .listed, .data, .pinned], laidTests := true, laidLooks := .later }
def WordsTellUptoCardSaid : Prop := Claim7.holds Tryd.pinned (.plain (OpenSpec.upto wordsTellSpec)) wordsTellUptoCard
end Rows
end Go.Proofs.YtigfdclopkagmaaDoor
