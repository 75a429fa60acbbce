/-
  DERIVED. GIVEN WITH THE SEED: THE CARDS: each row of YtfdcdokfneicjaaGreatDoorRows.lean that lists a variable, with what it lists TIED to the program's text (the seventh form; the later family's looks); each row that meets fmt, with fmt's text TOLD by the authors' own Lean function (tested against real Go, not proved from fmt's source: count such statements apart). THE CARD IS WHAT COUNTS. Prove the row's statement (the work); the ties are given (YtfdcdokfneicjaaGreatDoorTie.lean); close each card by the builder's one call (the guide's Derived/Test/ToyasCard.lean, 'card_holds'). Laid BY PROGRAM, IN A SANDBOX (cutbox-door.mjs). By AI agents, Wed Nov 11 2026. No macro, syntax, notation, axiom, sorry.
-/
import Derived.Test.YtfdcdokfneicjaaGreatDoorRows
import GoSem.ClaimSeven
namespace Go.Proofs.YtfdcdokfneicjaaGreatDoor
namespace Rows

/-- THE TIED CARD OF 'ulptop.TopReduced'. -/
def topReducedCard : Claim7 := { stood := { row := topReducedRow, standIns := [], harness := (true, "df987b10cb59c7394e6b8fef489987fb412fd3ef744be2790937cf460c2715ea"), looks := false }, kinds := [], alts := [], laidByText := true, laidKinds := [.data], laidTests := true, laidLooks := .later }
def TopReducedCardSaid : Prop := Claim7.holds Tryz.pinned (.plain (OpenSpec.ofChange topReducedSpec)) topReducedCard

/-- THE TIED CARD OF 'ulptop.TopHalfTurns'. -/
def topHalfTurnsCard : Claim7 := { stood := { row := topHalfTurnsRow, standIns := [], harness := (true, "df987b10cb59c7394e6b8fef489987fb412fd3ef744be2790937cf460c2715ea"), looks := false }, kinds := [], alts := [], laidByText := true, laidKinds := [.data, .data], laidTests := true, laidLooks := .later }
def TopHalfTurnsCardSaid : Prop := Claim7.holds Tryz.pinned (.plain (OpenSpec.ofChange topHalfTurnsSpec)) topHalfTurnsCard

/-- THE SECOND FORM's CARD OF 'ulptop.TopReduced'. -/
def topReducedUptoCard : Claim7 := { stood := { row := topReducedUptoRow, standIns := [], harness := (true, "df987b10cb59c7394e6b8fef489987fb412fd3ef744be2790937cf460c2715ea"), looks := false }, kinds := [], alts := [], laidByText := true, laidKinds := [.data], laidTests := true, laidLooks := .later }
def TopReducedUptoCardSaid : Prop := Claim7.holds Tryz.pinned (.plain (OpenSpec.upto topReducedSpec)) topReducedUptoCard

/-- THE SECOND FORM's CARD OF 'ulptop.TopHalfTurns'. -/
def topHalfTurnsUptoCard : Claim7 := { stood := { row := topHalfTurnsUptoRow, standIns := [], harness := (true, "df987b10cb59c7394e6b8fef489987fb412fd3ef744be2790937cf460c2715ea"), looks := false }, kinds := [], alts := [], laidByText := true, laidKinds := [.data, .data], laidTests := true, laidLooks := .later }
def TopHalfTurnsUptoCardSaid : Prop := Claim7.holds Tryz.pinned (.plain (OpenSpec.upto topHalfTurnsSpec)) topHalfTurnsUptoCard
end Rows
end Go.Proofs.YtfdcdokfneicjaaGreatDoor
