/-
  DERIVED. GIVEN WITH THE SEED: THE CARDS: each row of YtcgjbmbdkpapdaaGreatDoorRows.lean that lists a variable, with what it lists TIED to the program's text (the seventh form; the later family's looks); each row that meets fmt, with fmt's text TOLD by the authors' own Lean function (tested against real Go, not proved from fmt's source: count such statements apart). THE CARD IS WHAT COUNTS. Prove the row's statement (the work); the ties are given (YtcgjbmbdkpapdaaGreatDoorTie.lean); close each card by the builder's one call (the guide's Derived/Test/ToyasCard.lean, 'card_holds'). Laid BY PROGRAM, IN A SANDBOX (cutbox-door.mjs). By AI agents, Wed Nov 11 2026. No macro, syntax, notation, axiom, sorry.
-/
import Derived.Test.YtcgjbmbdkpapdaaGreatDoorRows
import GoSem.ClaimSeven
namespace Go.Proofs.YtcgjbmbdkpapdaaGreatDoor
namespace Rows

/-- THE TIED CARD OF 'ulplaw18.TrigpiEncloses'. -/
def trigpiEnclosesCard : Claim7 := { stood := { row := trigpiEnclosesRow, standIns := [], harness := (true, "990d1fb564d3eed7fa67cb4814c00721133c7f08d51dca447c82701fcac16219"), looks := false }, kinds := [], alts := [], laidByText := true, laidKinds := [.data], laidTests := true, laidLooks := .later }
def TrigpiEnclosesCardSaid : Prop := Claim7.holds Tryz.pinned (.plain (OpenSpec.ofChange trigpiEnclosesSpec)) trigpiEnclosesCard

/-- THE TIED CARD OF 'ulplaw18.TrigpiCircle'. -/
def trigpiCircleCard : Claim7 := { stood := { row := trigpiCircleRow, standIns := [], harness := (true, "990d1fb564d3eed7fa67cb4814c00721133c7f08d51dca447c82701fcac16219"), looks := false }, kinds := [], alts := [], laidByText := true, laidKinds := [.data], laidTests := true, laidLooks := .later }
def TrigpiCircleCardSaid : Prop := Claim7.holds Tryz.pinned (.plain (OpenSpec.ofChange trigpiCircleSpec)) trigpiCircleCard

/-- THE TIED CARD OF 'ulplaw18.TrigpiMirror'. -/
def trigpiMirrorCard : Claim7 := { stood := { row := trigpiMirrorRow, standIns := [], harness := (true, "990d1fb564d3eed7fa67cb4814c00721133c7f08d51dca447c82701fcac16219"), looks := false }, kinds := [], alts := [], laidByText := true, laidKinds := [.data], laidTests := true, laidLooks := .later }
def TrigpiMirrorCardSaid : Prop := Claim7.holds Tryz.pinned (.plain (OpenSpec.ofChange trigpiMirrorSpec)) trigpiMirrorCard

/-- THE TIED CARD OF 'ulplaw18.TrigpiBoth'. -/
def trigpiBothCard : Claim7 := { stood := { row := trigpiBothRow, standIns := [], harness := (true, "990d1fb564d3eed7fa67cb4814c00721133c7f08d51dca447c82701fcac16219"), looks := false }, kinds := [], alts := [], laidByText := true, laidKinds := [.data], laidTests := true, laidLooks := .later }
def TrigpiBothCardSaid : Prop := Claim7.holds Tryz.pinned (.plain (OpenSpec.ofChange trigpiBothSpec)) trigpiBothCard

/-- THE TIED CARD OF 'ulplaw18.TrigpiTurns'. -/
def trigpiTurnsCard : Claim7 := { stood := { row := trigpiTurnsRow, standIns := [], harness := (true, "990d1fb564d3eed7fa67cb4814c00721133c7f08d51dca447c82701fcac16219"), looks := false }, kinds := [], alts := [], laidByText := true, laidKinds := [.data], laidTests := true, laidLooks := .later }
def TrigpiTurnsCardSaid : Prop := Claim7.holds Tryz.pinned (.plain (OpenSpec.ofChange trigpiTurnsSpec)) trigpiTurnsCard

/-- THE TIED CARD OF 'ulplaw18.TrigpiSums'. -/
def trigpiSumsCard : Claim7 := { stood := { row := trigpiSumsRow, standIns := [], harness := (true, "990d1fb564d3eed7fa67cb4814c00721133c7f08d51dca447c82701fcac16219"), looks := false }, kinds := [], alts := [], laidByText := true, laidKinds := [.data], laidTests := true, laidLooks := .later }
def TrigpiSumsCardSaid : Prop := Claim7.holds Tryz.pinned (.plain (OpenSpec.ofChange trigpiSumsSpec)) trigpiSumsCard

/-- THE TIED CARD OF 'ulplaw18.TrigpiParts'. -/
def trigpiPartsCard : Claim7 := { stood := { row := trigpiPartsRow, standIns := [], harness := (true, "990d1fb564d3eed7fa67cb4814c00721133c7f08d51dca447c82701fcac16219"), looks := false }, kinds := [], alts := [], laidByText := true, laidKinds := [.data], laidTests := true, laidLooks := .later }
def TrigpiPartsCardSaid : Prop := Claim7.holds Tryz.pinned (.plain (OpenSpec.ofChange trigpiPartsSpec)) trigpiPartsCard

/-- THE SECOND FORM's CARD OF 'ulplaw18.TrigpiEncloses'. -/
def trigpiEnclosesUptoCard : Claim7 := { stood := { row := trigpiEnclosesUptoRow, standIns := [], harness := (true, "990d1fb564d3eed7fa67cb4814c00721133c7f08d51dca447c82701fcac16219"), looks := false }, kinds := [], alts := [], laidByText := true, laidKinds := [.data], laidTests := true, laidLooks := .later }
def TrigpiEnclosesUptoCardSaid : Prop := Claim7.holds Tryz.pinned (.plain (OpenSpec.upto trigpiEnclosesSpec)) trigpiEnclosesUptoCard

/-- THE SECOND FORM's CARD OF 'ulplaw18.TrigpiCircle'. -/
def trigpiCircleUptoCard : Claim7 := { stood := { row := trigpiCircleUptoRow, standIns := [], harness := (true, "990d1fb564d3eed7fa67cb4814c00721133c7f08d51dca447c82701fcac16219"), looks := false }, kinds := [], alts := [], laidByText := true, laidKinds := [.data], laidTests := true, laidLooks := .later }
def TrigpiCircleUptoCardSaid : Prop := Claim7.holds Tryz.pinned (.plain (OpenSpec.upto trigpiCircleSpec)) trigpiCircleUptoCard

/-- THE SECOND FORM's CARD OF 'ulplaw18.TrigpiMirror'. -/
def trigpiMirrorUptoCard : Claim7 := { stood := { row := trigpiMirrorUptoRow, standIns := [], harness := (true, "990d1fb564d3eed7fa67cb4814c00721133c7f08d51dca447c82701fcac16219"), looks := false }, kinds := [], alts := [], laidByText := true, laidKinds := [.data], laidTests := true, laidLooks := .later }
def TrigpiMirrorUptoCardSaid : Prop := Claim7.holds Tryz.pinned (.plain (OpenSpec.upto trigpiMirrorSpec)) trigpiMirrorUptoCard

/-- THE SECOND FORM's CARD OF 'ulplaw18.TrigpiBoth'. -/
def trigpiBothUptoCard : Claim7 := { stood := { row := trigpiBothUptoRow, standIns := [], harness := (true, "990d1fb564d3eed7fa67cb4814c00721133c7f08d51dca447c82701fcac16219"), looks := false }, kinds := [], alts := [], laidByText := true, laidKinds := [.data], laidTests := true, laidLooks := .later }
def TrigpiBothUptoCardSaid : Prop := Claim7.holds Tryz.pinned (.plain (OpenSpec.upto trigpiBothSpec)) trigpiBothUptoCard

/-- THE SECOND FORM's CARD OF 'ulplaw18.TrigpiTurns'. -/
def trigpiTurnsUptoCard : Claim7 := { stood := { row := trigpiTurnsUptoRow, standIns := [], harness := (true, "990d1fb564d3eed7fa67cb4814c00721133c7f08d51dca447c82701fcac16219"), looks := false }, kinds := [], alts := [], laidByText := true, laidKinds := [.data], laidTests := true, laidLooks := .later }
def TrigpiTurnsUptoCardSaid : Prop := Claim7.holds Tryz.pinned (.plain (OpenSpec.upto trigpiTurnsSpec)) trigpiTurnsUptoCard

/-- THE SECOND FORM's CARD OF 'ulplaw18.TrigpiSums'. -/
def trigpiSumsUptoCard : Claim7 := { stood := { row := trigpiSumsUptoRow, standIns := [], harness := (true, "990d1fb564d3eed7fa67cb4814c00721133c7f08d51dca447c82701fcac16219"), looks := false }, kinds := [], alts := [], laidByText := true, laidKinds := [.data], laidTests := true, laidLooks := .later }
def TrigpiSumsUptoCardSaid : Prop := Claim7.holds Tryz.pinned (.plain (OpenSpec.upto trigpiSumsSpec)) trigpiSumsUptoCard

/-- THE SECOND FORM's CARD OF 'ulplaw18.TrigpiParts'. -/
def trigpiPartsUptoCard : Claim7 := { stood := { row := trigpiPartsUptoRow, standIns := [], harness := (true, "990d1fb564d3eed7fa67cb4814c00721133c7f08d51dca447c82701fcac16219"), looks := false }, kinds := [], alts := [], laidByText := true, laidKinds := [.data], laidTests := true, laidLooks := .later }
def TrigpiPartsUptoCardSaid : Prop := Claim7.holds Tryz.pinned (.plain (OpenSpec.upto trigpiPartsSpec)) trigpiPartsUptoCard
end Rows
end Go.Proofs.YtcgjbmbdkpapdaaGreatDoor
