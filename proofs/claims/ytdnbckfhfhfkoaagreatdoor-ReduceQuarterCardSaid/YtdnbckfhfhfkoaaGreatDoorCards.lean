/-
  DERIVED. GIVEN WITH THE SEED: THE CARDS: each row of YtdnbckfhfhfkoaaGreatDoorRows.lean that lists a variable, with what it lists TIED to the program's text (the seventh form; the later family's looks); each row that meets fmt, with fmt's text TOLD by the authors' own Lean function (tested against real Go, not proved from fmt's source: count such statements apart). THE CARD IS WHAT COUNTS. Prove the row's statement (the work); the ties are given (YtdnbckfhfhfkoaaGreatDoorTie.lean); close each card by the builder's one call (the guide's Derived/Test/ToyasCard.lean, 'card_holds'). Laid BY PROGRAM, IN A SANDBOX (cutbox-door.mjs). By AI agents, Wed Nov 11 2026. No macro, syntax, notation, axiom, sorry.
-/
import Derived.Test.YtdnbckfhfhfkoaaGreatDoorRows
import GoSem.ClaimSeven
namespace Go.Proofs.YtdnbckfhfhfkoaaGreatDoor
namespace Rows

/-- THE TIED CARD OF 'ulplaw14.ReduceQuarter'. -/
def reduceQuarterCard : Claim7 := { stood := { row := reduceQuarterRow, standIns := [], harness := (true, "e5f96d84b8099a6831f241ceecbe8b2801ec2a45e7446313ecb10da8541b10b7"), looks := false }, kinds := [], alts := [], laidByText := true, laidKinds := [.data], laidTests := true, laidLooks := .later }
def ReduceQuarterCardSaid : Prop := Claim7.holds Tryz.pinned (.plain (OpenSpec.ofChange reduceQuarterSpec)) reduceQuarterCard

/-- THE TIED CARD OF 'ulplaw14.ReduceOdd'. -/
def reduceOddCard : Claim7 := { stood := { row := reduceOddRow, standIns := [], harness := (true, "e5f96d84b8099a6831f241ceecbe8b2801ec2a45e7446313ecb10da8541b10b7"), looks := false }, kinds := [], alts := [], laidByText := true, laidKinds := [.data], laidTests := true, laidLooks := .later }
def ReduceOddCardSaid : Prop := Claim7.holds Tryz.pinned (.plain (OpenSpec.ofChange reduceOddSpec)) reduceOddCard

/-- THE TIED CARD OF 'ulplaw14.ReduceTurn'. -/
def reduceTurnCard : Claim7 := { stood := { row := reduceTurnRow, standIns := [], harness := (true, "e5f96d84b8099a6831f241ceecbe8b2801ec2a45e7446313ecb10da8541b10b7"), looks := false }, kinds := [], alts := [], laidByText := true, laidKinds := [.data], laidTests := true, laidLooks := .later }
def ReduceTurnCardSaid : Prop := Claim7.holds Tryz.pinned (.plain (OpenSpec.ofChange reduceTurnSpec)) reduceTurnCard

/-- THE TIED CARD OF 'ulplaw14.ReduceAngles'. -/
def reduceAnglesCard : Claim7 := { stood := { row := reduceAnglesRow, standIns := [], harness := (true, "e5f96d84b8099a6831f241ceecbe8b2801ec2a45e7446313ecb10da8541b10b7"), looks := false }, kinds := [], alts := [], laidByText := true, laidKinds := [.data], laidTests := true, laidLooks := .later }
def ReduceAnglesCardSaid : Prop := Claim7.holds Tryz.pinned (.plain (OpenSpec.ofChange reduceAnglesSpec)) reduceAnglesCard

/-- THE TIED CARD OF 'ulplaw14.ReduceExact'. -/
def reduceExactCard : Claim7 := { stood := { row := reduceExactRow, standIns := [], harness := (true, "e5f96d84b8099a6831f241ceecbe8b2801ec2a45e7446313ecb10da8541b10b7"), looks := false }, kinds := [], alts := [], laidByText := true, laidKinds := [.data], laidTests := true, laidLooks := .later }
def ReduceExactCardSaid : Prop := Claim7.holds Tryz.pinned (.plain (OpenSpec.ofChange reduceExactSpec)) reduceExactCard

/-- THE TIED CARD OF 'ulplaw14.ReduceNear'. -/
def reduceNearCard : Claim7 := { stood := { row := reduceNearRow, standIns := [], harness := (true, "e5f96d84b8099a6831f241ceecbe8b2801ec2a45e7446313ecb10da8541b10b7"), looks := false }, kinds := [], alts := [], laidByText := true, laidKinds := [.data], laidTests := true, laidLooks := .later }
def ReduceNearCardSaid : Prop := Claim7.holds Tryz.pinned (.plain (OpenSpec.ofChange reduceNearSpec)) reduceNearCard

/-- THE TIED CARD OF 'ulplaw14.ReduceBack'. -/
def reduceBackCard : Claim7 := { stood := { row := reduceBackRow, standIns := [], harness := (true, "e5f96d84b8099a6831f241ceecbe8b2801ec2a45e7446313ecb10da8541b10b7"), looks := false }, kinds := [], alts := [], laidByText := true, laidKinds := [.data], laidTests := true, laidLooks := .later }
def ReduceBackCardSaid : Prop := Claim7.holds Tryz.pinned (.plain (OpenSpec.ofChange reduceBackSpec)) reduceBackCard

/-- THE SECOND FORM's CARD OF 'ulplaw14.ReduceQuarter'. -/
def reduceQuarterUptoCard : Claim7 := { stood := { row := reduceQuarterUptoRow, standIns := [], harness := (true, "e5f96d84b8099a6831f241ceecbe8b2801ec2a45e7446313ecb10da8541b10b7"), looks := false }, kinds := [], alts := [], laidByText := true, laidKinds := [.data], laidTests := true, laidLooks := .later }
def ReduceQuarterUptoCardSaid : Prop := Claim7.holds Tryz.pinned (.plain (OpenSpec.upto reduceQuarterSpec)) reduceQuarterUptoCard

/-- THE SECOND FORM's CARD OF 'ulplaw14.ReduceOdd'. -/
def reduceOddUptoCard : Claim7 := { stood := { row := reduceOddUptoRow, standIns := [], harness := (true, "e5f96d84b8099a6831f241ceecbe8b2801ec2a45e7446313ecb10da8541b10b7"), looks := false }, kinds := [], alts := [], laidByText := true, laidKinds := [.data], laidTests := true, laidLooks := .later }
def ReduceOddUptoCardSaid : Prop := Claim7.holds Tryz.pinned (.plain (OpenSpec.upto reduceOddSpec)) reduceOddUptoCard

/-- THE SECOND FORM's CARD OF 'ulplaw14.ReduceTurn'. -/
def reduceTurnUptoCard : Claim7 := { stood := { row := reduceTurnUptoRow, standIns := [], harness := (true, "e5f96d84b8099a6831f241ceecbe8b2801ec2a45e7446313ecb10da8541b10b7"), looks := false }, kinds := [], alts := [], laidByText := true, laidKinds := [.data], laidTests := true, laidLooks := .later }
def ReduceTurnUptoCardSaid : Prop := Claim7.holds Tryz.pinned (.plain (OpenSpec.upto reduceTurnSpec)) reduceTurnUptoCard

/-- THE SECOND FORM's CARD OF 'ulplaw14.ReduceAngles'. -/
def reduceAnglesUptoCard : Claim7 := { stood := { row := reduceAnglesUptoRow, standIns := [], harness := (true, "e5f96d84b8099a6831f241ceecbe8b2801ec2a45e7446313ecb10da8541b10b7"), looks := false }, kinds := [], alts := [], laidByText := true, laidKinds := [.data], laidTests := true, laidLooks := .later }
def ReduceAnglesUptoCardSaid : Prop := Claim7.holds Tryz.pinned (.plain (OpenSpec.upto reduceAnglesSpec)) reduceAnglesUptoCard

/-- THE SECOND FORM's CARD OF 'ulplaw14.ReduceExact'. -/
def reduceExactUptoCard : Claim7 := { stood := { row := reduceExactUptoRow, standIns := [], harness := (true, "e5f96d84b8099a6831f241ceecbe8b2801ec2a45e7446313ecb10da8541b10b7"), looks := false }, kinds := [], alts := [], laidByText := true, laidKinds := [.data], laidTests := true, laidLooks := .later }
def ReduceExactUptoCardSaid : Prop := Claim7.holds Tryz.pinned (.plain (OpenSpec.upto reduceExactSpec)) reduceExactUptoCard

/-- THE SECOND FORM's CARD OF 'ulplaw14.ReduceNear'. -/
def reduceNearUptoCard : Claim7 := { stood := { row := reduceNearUptoRow, standIns := [], harness := (true, "e5f96d84b8099a6831f241ceecbe8b2801ec2a45e7446313ecb10da8541b10b7"), looks := false }, kinds := [], alts := [], laidByText := true, laidKinds := [.data], laidTests := true, laidLooks := .later }
def ReduceNearUptoCardSaid : Prop := Claim7.holds Tryz.pinned (.plain (OpenSpec.upto reduceNearSpec)) reduceNearUptoCard

/-- THE SECOND FORM's CARD OF 'ulplaw14.ReduceBack'. -/
def reduceBackUptoCard : Claim7 := { stood := { row := reduceBackUptoRow, standIns := [], harness := (true, "e5f96d84b8099a6831f241ceecbe8b2801ec2a45e7446313ecb10da8541b10b7"), looks := false }, kinds := [], alts := [], laidByText := true, laidKinds := [.data], laidTests := true, laidLooks := .later }
def ReduceBackUptoCardSaid : Prop := Claim7.holds Tryz.pinned (.plain (OpenSpec.upto reduceBackSpec)) reduceBackUptoCard
end Rows
end Go.Proofs.YtdnbckfhfhfkoaaGreatDoor
