/-
  DERIVED. GIVEN WITH THE SEED: THE CARDS: each row of YtenkjloaghmjfaaGreatDoorRows.lean that lists a variable, with what it lists TIED to the program's text (the seventh form; the later family's looks); each row that meets fmt, with fmt's text TOLD by the authors' own Lean function (tested against real Go, not proved from fmt's source: count such statements apart). THE CARD IS WHAT COUNTS. Prove the row's statement (the work); the ties are given (YtenkjloaghmjfaaGreatDoorTie.lean); close each card by the builder's one call (the guide's Derived/Test/ToyasCard.lean, 'card_holds'). Laid BY PROGRAM, IN A SANDBOX (cutbox-door.mjs). By AI agents, Wed Nov 11 2026. No macro, syntax, notation, axiom, sorry.
-/
import Derived.Test.YtenkjloaghmjfaaGreatDoorRows
import GoSem.ClaimSeven
namespace Go.Proofs.YtenkjloaghmjfaaGreatDoor
namespace Rows

/-- THE TIED CARD OF 'ulplaw17.TrigEncloses'. -/
def trigEnclosesCard : Claim7 := { stood := { row := trigEnclosesRow, standIns := [], harness := (true, "d6f5539bea426edbee5cacecedeb167f258bce96420381a4a9aa606ed4b95140"), looks := false }, kinds := [], alts := [], laidByText := true, laidKinds := [.data, .data], laidTests := true, laidLooks := .later }
def TrigEnclosesCardSaid : Prop := Claim7.holds Tryz.pinned (.plain (OpenSpec.ofChange trigEnclosesSpec)) trigEnclosesCard

/-- THE TIED CARD OF 'ulplaw17.TrigCircle'. -/
def trigCircleCard : Claim7 := { stood := { row := trigCircleRow, standIns := [], harness := (true, "d6f5539bea426edbee5cacecedeb167f258bce96420381a4a9aa606ed4b95140"), looks := false }, kinds := [], alts := [], laidByText := true, laidKinds := [.data, .data], laidTests := true, laidLooks := .later }
def TrigCircleCardSaid : Prop := Claim7.holds Tryz.pinned (.plain (OpenSpec.ofChange trigCircleSpec)) trigCircleCard

/-- THE TIED CARD OF 'ulplaw17.TrigTwice'. -/
def trigTwiceCard : Claim7 := { stood := { row := trigTwiceRow, standIns := [], harness := (true, "d6f5539bea426edbee5cacecedeb167f258bce96420381a4a9aa606ed4b95140"), looks := false }, kinds := [], alts := [], laidByText := true, laidKinds := [.data, .data], laidTests := true, laidLooks := .later }
def TrigTwiceCardSaid : Prop := Claim7.holds Tryz.pinned (.plain (OpenSpec.ofChange trigTwiceSpec)) trigTwiceCard

/-- THE TIED CARD OF 'ulplaw17.TrigBounds'. -/
def trigBoundsCard : Claim7 := { stood := { row := trigBoundsRow, standIns := [], harness := (true, "d6f5539bea426edbee5cacecedeb167f258bce96420381a4a9aa606ed4b95140"), looks := false }, kinds := [], alts := [], laidByText := true, laidKinds := [.data, .data], laidTests := true, laidLooks := .later }
def TrigBoundsCardSaid : Prop := Claim7.holds Tryz.pinned (.plain (OpenSpec.ofChange trigBoundsSpec)) trigBoundsCard

/-- THE TIED CARD OF 'ulplaw17.TrigMirror'. -/
def trigMirrorCard : Claim7 := { stood := { row := trigMirrorRow, standIns := [], harness := (true, "d6f5539bea426edbee5cacecedeb167f258bce96420381a4a9aa606ed4b95140"), looks := false }, kinds := [], alts := [], laidByText := true, laidKinds := [.data, .data], laidTests := true, laidLooks := .later }
def TrigMirrorCardSaid : Prop := Claim7.holds Tryz.pinned (.plain (OpenSpec.ofChange trigMirrorSpec)) trigMirrorCard

/-- THE TIED CARD OF 'ulplaw17.TrigBoth'. -/
def trigBothCard : Claim7 := { stood := { row := trigBothRow, standIns := [], harness := (true, "d6f5539bea426edbee5cacecedeb167f258bce96420381a4a9aa606ed4b95140"), looks := false }, kinds := [], alts := [], laidByText := true, laidKinds := [.data, .data], laidTests := true, laidLooks := .later }
def TrigBothCardSaid : Prop := Claim7.holds Tryz.pinned (.plain (OpenSpec.ofChange trigBothSpec)) trigBothCard

/-- THE TIED CARD OF 'ulplaw17.TrigOwn'. -/
def trigOwnCard : Claim7 := { stood := { row := trigOwnRow, standIns := [], harness := (true, "d6f5539bea426edbee5cacecedeb167f258bce96420381a4a9aa606ed4b95140"), looks := false }, kinds := [], alts := [], laidByText := true, laidKinds := [.data, .data], laidTests := true, laidLooks := .later }
def TrigOwnCardSaid : Prop := Claim7.holds Tryz.pinned (.plain (OpenSpec.ofChange trigOwnSpec)) trigOwnCard

/-- THE SECOND FORM's CARD OF 'ulplaw17.TrigEncloses'. -/
def trigEnclosesUptoCard : Claim7 := { stood := { row := trigEnclosesUptoRow, standIns := [], harness := (true, "d6f5539bea426edbee5cacecedeb167f258bce96420381a4a9aa606ed4b95140"), looks := false }, kinds := [], alts := [], laidByText := true, laidKinds := [.data, .data], laidTests := true, laidLooks := .later }
def TrigEnclosesUptoCardSaid : Prop := Claim7.holds Tryz.pinned (.plain (OpenSpec.upto trigEnclosesSpec)) trigEnclosesUptoCard

/-- THE SECOND FORM's CARD OF 'ulplaw17.TrigCircle'. -/
def trigCircleUptoCard : Claim7 := { stood := { row := trigCircleUptoRow, standIns := [], harness := (true, "d6f5539bea426edbee5cacecedeb167f258bce96420381a4a9aa606ed4b95140"), looks := false }, kinds := [], alts := [], laidByText := true, laidKinds := [.data, .data], laidTests := true, laidLooks := .later }
def TrigCircleUptoCardSaid : Prop := Claim7.holds Tryz.pinned (.plain (OpenSpec.upto trigCircleSpec)) trigCircleUptoCard

/-- THE SECOND FORM's CARD OF 'ulplaw17.TrigTwice'. -/
def trigTwiceUptoCard : Claim7 := { stood := { row := trigTwiceUptoRow, standIns := [], harness := (true, "d6f5539bea426edbee5cacecedeb167f258bce96420381a4a9aa606ed4b95140"), looks := false }, kinds := [], alts := [], laidByText := true, laidKinds := [.data, .data], laidTests := true, laidLooks := .later }
def TrigTwiceUptoCardSaid : Prop := Claim7.holds Tryz.pinned (.plain (OpenSpec.upto trigTwiceSpec)) trigTwiceUptoCard

/-- THE SECOND FORM's CARD OF 'ulplaw17.TrigBounds'. -/
def trigBoundsUptoCard : Claim7 := { stood := { row := trigBoundsUptoRow, standIns := [], harness := (true, "d6f5539bea426edbee5cacecedeb167f258bce96420381a4a9aa606ed4b95140"), looks := false }, kinds := [], alts := [], laidByText := true, laidKinds := [.data, .data], laidTests := true, laidLooks := .later }
def TrigBoundsUptoCardSaid : Prop := Claim7.holds Tryz.pinned (.plain (OpenSpec.upto trigBoundsSpec)) trigBoundsUptoCard

/-- THE SECOND FORM's CARD OF 'ulplaw17.TrigMirror'. -/
def trigMirrorUptoCard : Claim7 := { stood := { row := trigMirrorUptoRow, standIns := [], harness := (true, "d6f5539bea426edbee5cacecedeb167f258bce96420381a4a9aa606ed4b95140"), looks := false }, kinds := [], alts := [], laidByText := true, laidKinds := [.data, .data], laidTests := true, laidLooks := .later }
def TrigMirrorUptoCardSaid : Prop := Claim7.holds Tryz.pinned (.plain (OpenSpec.upto trigMirrorSpec)) trigMirrorUptoCard

/-- THE SECOND FORM's CARD OF 'ulplaw17.TrigBoth'. -/
def trigBothUptoCard : Claim7 := { stood := { row := trigBothUptoRow, standIns := [], harness := (true, "d6f5539bea426edbee5cacecedeb167f258bce96420381a4a9aa606ed4b95140"), looks := false }, kinds := [], alts := [], laidByText := true, laidKinds := [.data, .data], laidTests := true, laidLooks := .later }
def TrigBothUptoCardSaid : Prop := Claim7.holds Tryz.pinned (.plain (OpenSpec.upto trigBothSpec)) trigBothUptoCard

/-- THE SECOND FORM's CARD OF 'ulplaw17.TrigOwn'. -/
def trigOwnUptoCard : Claim7 := { stood := { row := trigOwnUptoRow, standIns := [], harness := (true, "d6f5539bea426edbee5cacecedeb167f258bce96420381a4a9aa606ed4b95140"), looks := false }, kinds := [], alts := [], laidByText := true, laidKinds := [.data, .data], laidTests := true, laidLooks := .later }
def TrigOwnUptoCardSaid : Prop := Claim7.holds Tryz.pinned (.plain (OpenSpec.upto trigOwnSpec)) trigOwnUptoCard
end Rows
end Go.Proofs.YtenkjloaghmjfaaGreatDoor
