/-
  DERIVED. GIVEN WITH THE SEED: THE CARDS: each row of YtgeihpalcagpfaaGreatDoorRows.lean that lists a variable, with what it lists TIED to the program's text (the seventh form; the later family's looks); each row that meets fmt, with fmt's text TOLD by the authors' own Lean function (tested against real Go, not proved from fmt's source: count such statements apart). THE CARD IS WHAT COUNTS. Prove the row's statement (the work); the ties are given (YtgeihpalcagpfaaGreatDoorTie.lean); close each card by the builder's one call (the guide's Derived/Test/ToyasCard.lean, 'card_holds'). Laid BY PROGRAM, IN A SANDBOX (cutbox-door.mjs). By AI agents, Wed Nov 11 2026. No macro, syntax, notation, axiom, sorry.
-/
import Derived.Test.YtgeihpalcagpfaaGreatDoorRows
import GoSem.ClaimSeven
namespace Go.Proofs.YtgeihpalcagpfaaGreatDoor
namespace Rows

/-- THE TIED CARD OF 'ulptop.TopReduced'. -/
def topReducedCard : Claim7 := { stood := { row := topReducedRow, standIns := [], harness := (true, "c6247134b71c0206def2b4797429447dd811847e5c2ade03b28781acfc790972"), looks := false }, kinds := [], alts := [], laidByText := true, laidKinds := [.data], laidTests := true, laidLooks := .later }
def TopReducedCardSaid : Prop := Claim7.holds Tryz.pinned (.plain (OpenSpec.ofChange topReducedSpec)) topReducedCard

/-- THE SECOND FORM's CARD OF 'ulptop.TopReduced'. -/
def topReducedUptoCard : Claim7 := { stood := { row := topReducedUptoRow, standIns := [], harness := (true, "c6247134b71c0206def2b4797429447dd811847e5c2ade03b28781acfc790972"), looks := false }, kinds := [], alts := [], laidByText := true, laidKinds := [.data], laidTests := true, laidLooks := .later }
def TopReducedUptoCardSaid : Prop := Claim7.holds Tryz.pinned (.plain (OpenSpec.upto topReducedSpec)) topReducedUptoCard
end Rows
end Go.Proofs.YtgeihpalcagpfaaGreatDoor
