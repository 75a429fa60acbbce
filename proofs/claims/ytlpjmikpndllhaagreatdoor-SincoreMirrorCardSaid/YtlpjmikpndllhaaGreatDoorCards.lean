/-
  DERIVED. GIVEN WITH THE SEED: THE CARDS: each row of YtlpjmikpndllhaaGreatDoorRows.lean that lists a variable, with what it lists TIED to the program's text (the seventh form; the later family's looks); each row that meets fmt, with fmt's text TOLD by the authors' own Lean function (tested against real Go, not proved from fmt's source: count such statements apart). THE CARD IS WHAT COUNTS. Prove the row's statement (the work); the ties are given (YtlpjmikpndllhaaGreatDoorTie.lean); close each card by the builder's one call (the guide's Derived/Test/ToyasCard.lean, 'card_holds'). Laid BY PROGRAM, IN A SANDBOX (cutbox-door.mjs). By AI agents, Wed Nov 11 2026. No macro, syntax, notation, axiom, sorry.
-/
import Derived.Test.YtlpjmikpndllhaaGreatDoorRows
import GoSem.ClaimSeven
namespace Go.Proofs.YtlpjmikpndllhaaGreatDoor
namespace Rows

/-- THE TIED CARD OF 'ulplaw13.SincoreEncloses'. -/
def sincoreEnclosesCard : Claim7 := { stood := { row := sincoreEnclosesRow, standIns := [], harness := (true, "155c8a0ffb67f691852faa2d947e38315b9fd7f649359d2183e86c42250f7575"), looks := false }, kinds := [], alts := [], laidByText := true, laidKinds := [.data], laidTests := true, laidLooks := .later }
def SincoreEnclosesCardSaid : Prop := Claim7.holds Tryz.pinned (.plain (OpenSpec.ofChange sincoreEnclosesSpec)) sincoreEnclosesCard

/-- THE TIED CARD OF 'ulplaw13.SincoreCircle'. -/
def sincoreCircleCard : Claim7 := { stood := { row := sincoreCircleRow, standIns := [], harness := (true, "155c8a0ffb67f691852faa2d947e38315b9fd7f649359d2183e86c42250f7575"), looks := false }, kinds := [], alts := [], laidByText := true, laidKinds := [.data], laidTests := true, laidLooks := .later }
def SincoreCircleCardSaid : Prop := Claim7.holds Tryz.pinned (.plain (OpenSpec.ofChange sincoreCircleSpec)) sincoreCircleCard

/-- THE TIED CARD OF 'ulplaw13.SincoreMirror'. -/
def sincoreMirrorCard : Claim7 := { stood := { row := sincoreMirrorRow, standIns := [], harness := (true, "155c8a0ffb67f691852faa2d947e38315b9fd7f649359d2183e86c42250f7575"), looks := false }, kinds := [], alts := [], laidByText := true, laidKinds := [.data], laidTests := true, laidLooks := .later }
def SincoreMirrorCardSaid : Prop := Claim7.holds Tryz.pinned (.plain (OpenSpec.ofChange sincoreMirrorSpec)) sincoreMirrorCard

/-- THE TIED CARD OF 'ulplaw13.SincoreBounds'. -/
def sincoreBoundsCard : Claim7 := { stood := { row := sincoreBoundsRow, standIns := [], harness := (true, "155c8a0ffb67f691852faa2d947e38315b9fd7f649359d2183e86c42250f7575"), looks := false }, kinds := [], alts := [], laidByText := true, laidKinds := [.data], laidTests := true, laidLooks := .later }
def SincoreBoundsCardSaid : Prop := Claim7.holds Tryz.pinned (.plain (OpenSpec.ofChange sincoreBoundsSpec)) sincoreBoundsCard

/-- THE TIED CARD OF 'ulplaw13.SincoreBoth'. -/
def sincoreBothCard : Claim7 := { stood := { row := sincoreBothRow, standIns := [], harness := (true, "155c8a0ffb67f691852faa2d947e38315b9fd7f649359d2183e86c42250f7575"), looks := false }, kinds := [], alts := [], laidByText := true, laidKinds := [.data], laidTests := true, laidLooks := .later }
def SincoreBothCardSaid : Prop := Claim7.holds Tryz.pinned (.plain (OpenSpec.ofChange sincoreBothSpec)) sincoreBothCard

/-- THE TIED CARD OF 'ulplaw13.SincoreOwn'. -/
def sincoreOwnCard : Claim7 := { stood := { row := sincoreOwnRow, standIns := [], harness := (true, "155c8a0ffb67f691852faa2d947e38315b9fd7f649359d2183e86c42250f7575"), looks := false }, kinds := [], alts := [], laidByText := true, laidKinds := [.data], laidTests := true, laidLooks := .later }
def SincoreOwnCardSaid : Prop := Claim7.holds Tryz.pinned (.plain (OpenSpec.ofChange sincoreOwnSpec)) sincoreOwnCard

/-- THE SECOND FORM's CARD OF 'ulplaw13.SincoreEncloses'. -/
def sincoreEnclosesUptoCard : Claim7 := { stood := { row := sincoreEnclosesUptoRow, standIns := [], harness := (true, "155c8a0ffb67f691852faa2d947e38315b9fd7f649359d2183e86c42250f7575"), looks := false }, kinds := [], alts := [], laidByText := true, laidKinds := [.data], laidTests := true, laidLooks := .later }
def SincoreEnclosesUptoCardSaid : Prop := Claim7.holds Tryz.pinned (.plain (OpenSpec.upto sincoreEnclosesSpec)) sincoreEnclosesUptoCard

/-- THE SECOND FORM's CARD OF 'ulplaw13.SincoreCircle'. -/
def sincoreCircleUptoCard : Claim7 := { stood := { row := sincoreCircleUptoRow, standIns := [], harness := (true, "155c8a0ffb67f691852faa2d947e38315b9fd7f649359d2183e86c42250f7575"), looks := false }, kinds := [], alts := [], laidByText := true, laidKinds := [.data], laidTests := true, laidLooks := .later }
def SincoreCircleUptoCardSaid : Prop := Claim7.holds Tryz.pinned (.plain (OpenSpec.upto sincoreCircleSpec)) sincoreCircleUptoCard

/-- THE SECOND FORM's CARD OF 'ulplaw13.SincoreMirror'. -/
def sincoreMirrorUptoCard : Claim7 := { stood := { row := sincoreMirrorUptoRow, standIns := [], harness := (true, "155c8a0ffb67f691852faa2d947e38315b9fd7f649359d2183e86c42250f7575"), looks := false }, kinds := [], alts := [], laidByText := true, laidKinds := [.data], laidTests := true, laidLooks := .later }
def SincoreMirrorUptoCardSaid : Prop := Claim7.holds Tryz.pinned (.plain (OpenSpec.upto sincoreMirrorSpec)) sincoreMirrorUptoCard

/-- THE SECOND FORM's CARD OF 'ulplaw13.SincoreBounds'. -/
def sincoreBoundsUptoCard : Claim7 := { stood := { row := sincoreBoundsUptoRow, standIns := [], harness := (true, "155c8a0ffb67f691852faa2d947e38315b9fd7f649359d2183e86c42250f7575"), looks := false }, kinds := [], alts := [], laidByText := true, laidKinds := [.data], laidTests := true, laidLooks := .later }
def SincoreBoundsUptoCardSaid : Prop := Claim7.holds Tryz.pinned (.plain (OpenSpec.upto sincoreBoundsSpec)) sincoreBoundsUptoCard

/-- THE SECOND FORM's CARD OF 'ulplaw13.SincoreBoth'. -/
def sincoreBothUptoCard : Claim7 := { stood := { row := sincoreBothUptoRow, standIns := [], harness := (true, "155c8a0ffb67f691852faa2d947e38315b9fd7f649359d2183e86c42250f7575"), looks := false }, kinds := [], alts := [], laidByText := true, laidKinds := [.data], laidTests := true, laidLooks := .later }
def SincoreBothUptoCardSaid : Prop := Claim7.holds Tryz.pinned (.plain (OpenSpec.upto sincoreBothSpec)) sincoreBothUptoCard

/-- THE SECOND FORM's CARD OF 'ulplaw13.SincoreOwn'. -/
def sincoreOwnUptoCard : Claim7 := { stood := { row := sincoreOwnUptoRow, standIns := [], harness := (true, "155c8a0ffb67f691852faa2d947e38315b9fd7f649359d2183e86c42250f7575"), looks := false }, kinds := [], alts := [], laidByText := true, laidKinds := [.data], laidTests := true, laidLooks := .later }
def SincoreOwnUptoCardSaid : Prop := Claim7.holds Tryz.pinned (.plain (OpenSpec.upto sincoreOwnSpec)) sincoreOwnUptoCard
end Rows
end Go.Proofs.YtlpjmikpndllhaaGreatDoor
