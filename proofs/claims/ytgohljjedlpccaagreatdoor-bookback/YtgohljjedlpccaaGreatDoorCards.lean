/-
  DERIVED. GIVEN WITH THE SEED: THE CARDS: each row of YtgohljjedlpccaaGreatDoorRows.lean that lists a variable, with what it lists TIED to the program's text (the seventh form; the later family's looks); each row that meets fmt, with fmt's text TOLD by the authors' own Lean function (tested against real Go, not proved from fmt's source: count such statements apart). THE CARD IS WHAT COUNTS. Prove the row's statement (the work); the ties are given (YtgohljjedlpccaaGreatDoorTie.lean); close each card by the builder's one call (the guide's Derived/Test/ToyasCard.lean, 'card_holds'). Laid BY PROGRAM, IN A SANDBOX (cutbox-door.mjs). By AI agents, Wed Nov 11 2026. No macro, syntax, notation, axiom, sorry.
-/
import Derived.Test.YtgohljjedlpccaaGreatDoorRows
import GoSem.ClaimSeven
namespace Go.Proofs.YtgohljjedlpccaaGreatDoor
namespace Rows

/-- THE TIED CARD OF 'baizelaw15.BookSame'. -/
def bookSameCard : Claim7 := { stood := { row := bookSameRow, standIns := [], harness := (true, "e116ae26eb80f958be8f15b391a85b22725debab0d50c3db2e5cdb7ae65aa75a"), looks := true }, kinds := [], alts := [], laidByText := true, laidKinds := [.data, .listed, .data, .pinned], laidTests := true, laidLooks := .later }
def BookSameCardSaid : Prop := Claim7.holds Tryz.pinned (.plain (OpenSpec.ofChange bookSameSpec)) bookSameCard

/-- THE TIED CARD OF 'baizelaw15.BookBack'. -/
def bookBackCard : Claim7 := { stood := { row := bookBackRow, standIns := [], harness := (true, "e116ae26eb80f958be8f15b391a85b22725debab0d50c3db2e5cdb7ae65aa75a"), looks := true }, kinds := [], alts := [], laidByText := true, laidKinds := [.data, .data, .data, .data, .listed, .data, .pinned], laidTests := true, laidLooks := .later }
def BookBackCardSaid : Prop := Claim7.holds Tryz.pinned (.plain (OpenSpec.ofChange bookBackSpec)) bookBackCard

/-- THE SECOND FORM's CARD OF 'baizelaw15.BookSame'. -/
def bookSameUptoCard : Claim7 := { stood := { row := bookSameUptoRow, standIns := [], harness := (true, "e116ae26eb80f958be8f15b391a85b22725debab0d50c3db2e5cdb7ae65aa75a"), looks := true }, kinds := [], alts := [], laidByText := true, laidKinds := [.data, .listed, .data, .pinned], laidTests := true, laidLooks := .later }
def BookSameUptoCardSaid : Prop := Claim7.holds Tryz.pinned (.plain (OpenSpec.upto bookSameSpec)) bookSameUptoCard

/-- THE SECOND FORM's CARD OF 'baizelaw15.BookBack'. -/
def bookBackUptoCard : Claim7 := { stood := { row := bookBackUptoRow, standIns := [], harness := (true, "e116ae26eb80f958be8f15b391a85b22725debab0d50c3db2e5cdb7ae65aa75a"), looks := true }, kinds := [], alts := [], laidByText := true, laidKinds := [.data, .data, .data, .data, .listed, .data, .pinned], laidTests := true, laidLooks := .later }
def BookBackUptoCardSaid : Prop := Claim7.holds Tryz.pinned (.plain (OpenSpec.upto bookBackSpec)) bookBackUptoCard
end Rows
end Go.Proofs.YtgohljjedlpccaaGreatDoor
