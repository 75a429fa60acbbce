/-
  DERIVED. GIVEN WITH THE SEED: THE CARDS: each row of YtbmolijeikedcaaGreatDoorRows.lean that lists a variable, with what it lists TIED to the program's text (the seventh form; the later family's looks); each row that meets fmt, with fmt's text TOLD by the authors' own Lean function (tested against real Go, not proved from fmt's source: count such statements apart). THE CARD IS WHAT COUNTS. Prove the row's statement (the work); the ties are given (YtbmolijeikedcaaGreatDoorTie.lean); close each card by the builder's one call (the guide's Derived/Test/ToyasCard.lean, 'card_holds'). Laid BY PROGRAM, IN A SANDBOX (cutbox-door.mjs). By AI agents, Wed Nov 11 2026. No macro, syntax, notation, axiom, sorry.
-/
import Derived.Test.YtbmolijeikedcaaGreatDoorRows
import GoSem.ClaimSeven
namespace Go.Proofs.YtbmolijeikedcaaGreatDoor
namespace Rows

/-- THE TIED CARD OF 'ulplaw13.SincoreOwn'. -/
def sincoreOwnCard : Claim7 := { stood := { row := sincoreOwnRow, standIns := [], harness := (true, "a83a4242420001d6bc1cc0de1c375d614c5b692570fb657e7e68a945b72e7c48"), looks := false }, kinds := [], alts := [], laidByText := true, laidKinds := [.data], laidTests := true, laidLooks := .later }
def SincoreOwnCardSaid : Prop := Claim7.holds Tryz.pinned (.plain (OpenSpec.ofChange sincoreOwnSpec)) sincoreOwnCard

/-- THE SECOND FORM's CARD OF 'ulplaw13.SincoreOwn'. -/
def sincoreOwnUptoCard : Claim7 := { stood := { row := sincoreOwnUptoRow, standIns := [], harness := (true, "a83a4242420001d6bc1cc0de1c375d614c5b692570fb657e7e68a945b72e7c48"), looks := false }, kinds := [], alts := [], laidByText := true, laidKinds := [.data], laidTests := true, laidLooks := .later }
def SincoreOwnUptoCardSaid : Prop := Claim7.holds Tryz.pinned (.plain (OpenSpec.upto sincoreOwnSpec)) sincoreOwnUptoCard
end Rows
end Go.Proofs.YtbmolijeikedcaaGreatDoor
