/-
  DERIVED. GIVEN WITH THE SEED: THE CARDS: each row of YtbghonkgflolaaaDoorRows.lean that lists a variable, with what it lists TIED to the program's text (the seventh form; the later family's looks); each row that meets fmt, with fmt's text TOLD by the authors' own Lean function (tested against real Go, not proved from fmt's source: count such statements apart). THE CARD IS WHAT COUNTS. Prove the row's statement (the work); the ties are given (YtbghonkgflolaaaDoorTie.lean); close each card by the builder's one call (the guide's Derived/Test/ToyasCard.lean, 'card_holds'). Laid BY PROGRAM, IN A SANDBOX (cutbox-door.mjs). By AI agents, Wed Nov 11 2026. No macro, syntax, notation, axiom, sorry.
-/
import Derived.Test.YtbghonkgflolaaaDoorRows
import GoSem.ClaimSeven
namespace Go.Proofs.YtbghonkgflolaaaDoor
namespace Rows

/-- THE TIED CARD OF 'baizelaw13.KindsAlone'. -/
def kindsAloneCard : Claim7 := { stood := { row := kindsAloneRow, standIns := [], harness := (true, "27158a40587007416321ad09a28d4df8272a2f59364df51f5d734becf2ecb583"), looks := true }, kinds := [], alts := [], laidByText := true, laidKinds := [.listed, .data], laidTests := true, laidLooks := .later }
def KindsAloneCardSaid : Prop := Claim7.holds Tryd.pinned (.plain (OpenSpec.ofChange kindsAloneSpec)) kindsAloneCard

/-- THE SECOND FORM's CARD OF 'baizelaw13.KindsAlone'. -/
def kindsAloneUptoCard : Claim7 := { stood := { row := kindsAloneUptoRow, standIns := [], harness := (true, "27158a40587007416321ad09a28d4df8272a2f59364df51f5d734becf2ecb583"), looks := true }, kinds := [], alts := [], laidByText := true, laidKinds := [.listed, .data], laidTests := true, laidLooks := .later }
def KindsAloneUptoCardSaid : Prop := Claim7.holds Tryd.pinned (.plain (OpenSpec.upto kindsAloneSpec)) kindsAloneUptoCard
end Rows
end Go.Proofs.YtbghonkgflolaaaDoor
