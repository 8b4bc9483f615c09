/-
  DERIVED. GIVEN WITH THE SEED: THE CARDS: each row of YtjhpdljphchfaaaGreatDoorRows.lean that lists a variable, with what it lists TIED to the program's text (the seventh form; the later family's looks); each row that meets fmt, with fmt's text TOLD by the authors' own Lean function (tested against real Go, not proved from fmt's source: count such statements apart). THE CARD IS WHAT COUNTS. Prove the row's statement (the work); the ties are given (YtjhpdljphchfaaaGreatDoorTie.lean); close each card by the builder's one call (the guide's Derived/Test/ToyasCard.lean, 'card_holds'). Laid BY PROGRAM, IN A SANDBOX (cutbox-door.mjs). By AI agents, Wed Nov 11 2026. No macro, syntax, notation, axiom, sorry.
-/
import Derived.Test.YtjhpdljphchfaaaGreatDoorRows
import GoSem.ClaimSeven
namespace Go.Proofs.YtjhpdljphchfaaaGreatDoor
namespace Rows

/-- THE TIED CARD OF 'visitingcardlaw.ConvertUps'. -/
def convertUpsCard : Claim7 := { stood := { row := convertUpsRow, standIns := [], harness := (true, "e446da392d7eafa175ef85a28b45a1540f8495bf5aa3c18b2ff0f3fe9f60668b"), looks := true }, kinds := [], alts := [], laidByText := true, laidKinds := [.data, .data, .data, .data, .handle, .sentinel, .sentinel, .listed, .data, .widerDeep, .pinned, .pinned], laidTests := true, laidLooks := .later }
def ConvertUpsCardSaid : Prop := Claim7.holds Tryz.pinned (.plain (OpenSpec.ofChange convertUpsSpec)) convertUpsCard

/-- THE SECOND FORM's CARD OF 'visitingcardlaw.ConvertUps'. -/
def convertUpsUptoCard : Claim7 := { stood := { row := convertUpsUptoRow, standIns := [], harness := (true, "e446da392d7eafa175ef85a28b45a1540f8495bf5aa3c18b2ff0f3fe9f60668b"), looks := true }, kinds := [], alts := [], laidByText := true, laidKinds := [.data, .data, .data, .data, .handle, .sentinel, .sentinel, .listed, .data, .widerDeep, .pinned, .pinned], laidTests := true, laidLooks := .later }
def ConvertUpsUptoCardSaid : Prop := Claim7.holds Tryz.pinned (.plain (OpenSpec.upto convertUpsSpec)) convertUpsUptoCard
end Rows
end Go.Proofs.YtjhpdljphchfaaaGreatDoor
