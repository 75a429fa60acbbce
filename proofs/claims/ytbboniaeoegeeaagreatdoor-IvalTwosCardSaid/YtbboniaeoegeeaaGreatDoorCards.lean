/-
  DERIVED. GIVEN WITH THE SEED: THE CARDS: each row of YtbboniaeoegeeaaGreatDoorRows.lean that lists a variable, with what it lists TIED to the program's text (the seventh form; the later family's looks); each row that meets fmt, with fmt's text TOLD by the authors' own Lean function (tested against real Go, not proved from fmt's source: count such statements apart). THE CARD IS WHAT COUNTS. Prove the row's statement (the work); the ties are given (YtbboniaeoegeeaaGreatDoorTie.lean); close each card by the builder's one call (the guide's Derived/Test/ToyasCard.lean, 'card_holds'). Laid BY PROGRAM, IN A SANDBOX (cutbox-door.mjs). By AI agents, Wed Nov 11 2026. No macro, syntax, notation, axiom, sorry.
-/
import Derived.Test.YtbboniaeoegeeaaGreatDoorRows
import GoSem.ClaimSeven
namespace Go.Proofs.YtbboniaeoegeeaaGreatDoor
namespace Rows

/-- THE TIED CARD OF 'ulplaw06.IvalTwos'. -/
def ivalTwosCard : Claim7 := { stood := { row := ivalTwosRow, standIns := [], harness := (true, "7a50895e6100c868c38147ddb5be59caffc968490fe5840cb09fef3c94df1809"), looks := false }, kinds := [], alts := [], laidByText := true, laidKinds := [.data], laidTests := true, laidLooks := .later }
def IvalTwosCardSaid : Prop := Claim7.holds Tryz.pinned (.plain (OpenSpec.ofChange ivalTwosSpec)) ivalTwosCard

/-- THE SECOND FORM's CARD OF 'ulplaw06.IvalTwos'. -/
def ivalTwosUptoCard : Claim7 := { stood := { row := ivalTwosUptoRow, standIns := [], harness := (true, "7a50895e6100c868c38147ddb5be59caffc968490fe5840cb09fef3c94df1809"), looks := false }, kinds := [], alts := [], laidByText := true, laidKinds := [.data], laidTests := true, laidLooks := .later }
def IvalTwosUptoCardSaid : Prop := Claim7.holds Tryz.pinned (.plain (OpenSpec.upto ivalTwosSpec)) ivalTwosUptoCard
end Rows
end Go.Proofs.YtbboniaeoegeeaaGreatDoor
