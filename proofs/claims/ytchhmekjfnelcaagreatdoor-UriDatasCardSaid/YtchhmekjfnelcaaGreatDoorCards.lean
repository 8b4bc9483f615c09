/-
  DERIVED. GIVEN WITH THE SEED: THE CARDS: each row of YtchhmekjfnelcaaGreatDoorRows.lean that lists a variable, with what it lists TIED to the program's text (the seventh form; the later family's looks); each row that meets fmt, with fmt's text TOLD by the authors' own Lean function (tested against real Go, not proved from fmt's source: count such statements apart). THE CARD IS WHAT COUNTS. Prove the row's statement (the work); the ties are given (YtchhmekjfnelcaaGreatDoorTie.lean); close each card by the builder's one call (the guide's Derived/Test/ToyasCard.lean, 'card_holds'). Laid BY PROGRAM, IN A SANDBOX (cutbox-door.mjs). By AI agents, Wed Nov 11 2026. No macro, syntax, notation, axiom, sorry.
-/
import Derived.Test.YtchhmekjfnelcaaGreatDoorRows
import GoSem.ClaimSeven
namespace Go.Proofs.YtchhmekjfnelcaaGreatDoor
namespace Rows

/-- THE TIED CARD OF 'visitingcardlaw.B64Turns'. -/
def b64TurnsCard : Claim7 := { stood := { row := b64TurnsRow, standIns := [], harness := (true, "cc8521f424e7a02b207082df708541fcdbcdacb6a8a88d922820a91661ecc126"), looks := true }, kinds := [], alts := [], laidByText := true, laidKinds := [.data, .data, .data, .data, .handle, .sentinel, .sentinel, .pinned, .pinned], laidTests := true, laidLooks := .later }
def B64TurnsCardSaid : Prop := Claim7.holds Tryz.pinned (.plain (OpenSpec.ofChange b64TurnsSpec)) b64TurnsCard

/-- THE TIED CARD OF 'visitingcardlaw.UriDatas'. -/
def uriDatasCard : Claim7 := { stood := { row := uriDatasRow, standIns := [], harness := (true, "cc8521f424e7a02b207082df708541fcdbcdacb6a8a88d922820a91661ecc126"), looks := true }, kinds := [], alts := [], laidByText := true, laidKinds := [.data, .data, .data, .data, .handle, .sentinel, .sentinel, .pinned, .pinned], laidTests := true, laidLooks := .later }
def UriDatasCardSaid : Prop := Claim7.holds Tryz.pinned (.plain (OpenSpec.ofChange uriDatasSpec)) uriDatasCard

/-- THE SECOND FORM's CARD OF 'visitingcardlaw.B64Turns'. -/
def b64TurnsUptoCard : Claim7 := { stood := { row := b64TurnsUptoRow, standIns := [], harness := (true, "cc8521f424e7a02b207082df708541fcdbcdacb6a8a88d922820a91661ecc126"), looks := true }, kinds := [], alts := [], laidByText := true, laidKinds := [.data, .data, .data, .data, .handle, .sentinel, .sentinel, .pinned, .pinned], laidTests := true, laidLooks := .later }
def B64TurnsUptoCardSaid : Prop := Claim7.holds Tryz.pinned (.plain (OpenSpec.upto b64TurnsSpec)) b64TurnsUptoCard

/-- THE SECOND FORM's CARD OF 'visitingcardlaw.UriDatas'. -/
def uriDatasUptoCard : Claim7 := { stood := { row := uriDatasUptoRow, standIns := [], harness := (true, "cc8521f424e7a02b207082df708541fcdbcdacb6a8a88d922820a91661ecc126"), looks := true }, kinds := [], alts := [], laidByText := true, laidKinds := [.data, .data, .data, .data, .handle, .sentinel, .sentinel, .pinned, .pinned], laidTests := true, laidLooks := .later }
def UriDatasUptoCardSaid : Prop := Claim7.holds Tryz.pinned (.plain (OpenSpec.upto uriDatasSpec)) uriDatasUptoCard
end Rows
end Go.Proofs.YtchhmekjfnelcaaGreatDoor
