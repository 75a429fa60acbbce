/-
  DERIVED. GIVEN WITH THE SEED: THE CARDS: each row of YtmfmneanmamjbaaDoorRows.lean that lists a variable, with what it lists TIED to the program's text (the seventh form; the later family's looks); each row that meets fmt, with fmt's text TOLD by the authors' own Lean function (tested against real Go, not proved from fmt's source: count such statements apart). THE CARD IS WHAT COUNTS. Prove the row's statement (the work); the ties are given (YtmfmneanmamjbaaDoorTie.lean); close each card by the builder's one call (the guide's Derived/Test/ToyasCard.lean, 'card_holds'). Laid BY PROGRAM, IN A SANDBOX (cutbox-door.mjs). By AI agents, Wed Nov 11 2026. No macro, syntax, notation, axiom, sorry.
-/
import Derived.Test.YtmfmneanmamjbaaDoorRows
import GoSem.ClaimSeven
namespace Go.Proofs.YtmfmneanmamjbaaDoor
namespace Rows

/-- THE TIED CARD OF 'ulplaw06.IvalOwn'. -/
def ivalOwnCard : Claim7 := { stood := { row := ivalOwnRow, standIns := [], harness := (true, "db87e672ecbfbeb12d635ff5da61188338deaa64f8c3da17179083a1d4ad58ed"), looks := false }, kinds := [], alts := [], laidByText := true, laidKinds := [.data], laidTests := true, laidLooks := .later }
def IvalOwnCardSaid : Prop := Claim7.holds Tryd.pinned (.plain (OpenSpec.ofChange ivalOwnSpec)) ivalOwnCard

/-- THE TIED CARD OF 'ulplaw06.IvalForms'. -/
def ivalFormsCard : Claim7 := { stood := { row := ivalFormsRow, standIns := [], harness := (true, "db87e672ecbfbeb12d635ff5da61188338deaa64f8c3da17179083a1d4ad58ed"), looks := false }, kinds := [], alts := [], laidByText := true, laidKinds := [.data], laidTests := true, laidLooks := .later }
def IvalFormsCardSaid : Prop := Claim7.holds Tryd.pinned (.plain (OpenSpec.ofChange ivalFormsSpec)) ivalFormsCard

/-- THE TIED CARD OF 'ulplaw06.IvalNarrow'. -/
def ivalNarrowCard : Claim7 := { stood := { row := ivalNarrowRow, standIns := [], harness := (true, "db87e672ecbfbeb12d635ff5da61188338deaa64f8c3da17179083a1d4ad58ed"), looks := false }, kinds := [], alts := [], laidByText := true, laidKinds := [.data], laidTests := true, laidLooks := .later }
def IvalNarrowCardSaid : Prop := Claim7.holds Tryd.pinned (.plain (OpenSpec.ofChange ivalNarrowSpec)) ivalNarrowCard

/-- THE TIED CARD OF 'ulplaw06.IvalTurns'. -/
def ivalTurnsCard : Claim7 := { stood := { row := ivalTurnsRow, standIns := [], harness := (true, "db87e672ecbfbeb12d635ff5da61188338deaa64f8c3da17179083a1d4ad58ed"), looks := false }, kinds := [], alts := [], laidByText := true, laidKinds := [.data], laidTests := true, laidLooks := .later }
def IvalTurnsCardSaid : Prop := Claim7.holds Tryd.pinned (.plain (OpenSpec.ofChange ivalTurnsSpec)) ivalTurnsCard

/-- THE TIED CARD OF 'ulplaw06.IvalTells'. -/
def ivalTellsCard : Claim7 := { stood := { row := ivalTellsRow, standIns := [], harness := (true, "db87e672ecbfbeb12d635ff5da61188338deaa64f8c3da17179083a1d4ad58ed"), looks := false }, kinds := [], alts := [], laidByText := true, laidKinds := [.data], laidTests := true, laidLooks := .later }
def IvalTellsCardSaid : Prop := Claim7.holds Tryd.pinned (.plain (OpenSpec.ofChange ivalTellsSpec)) ivalTellsCard

/-- THE TIED CARD OF 'ulplaw06.IvalSharp'. -/
def ivalSharpCard : Claim7 := { stood := { row := ivalSharpRow, standIns := [], harness := (true, "db87e672ecbfbeb12d635ff5da61188338deaa64f8c3da17179083a1d4ad58ed"), looks := false }, kinds := [], alts := [], laidByText := true, laidKinds := [.data], laidTests := true, laidLooks := .later }
def IvalSharpCardSaid : Prop := Claim7.holds Tryd.pinned (.plain (OpenSpec.ofChange ivalSharpSpec)) ivalSharpCard

/-- THE TIED CARD OF 'ulplaw06.IvalEncloses'. -/
def ivalEnclosesCard : Claim7 := { stood := { row := ivalEnclosesRow, standIns := [], harness := (true, "db87e672ecbfbeb12d635ff5da61188338deaa64f8c3da17179083a1d4ad58ed"), looks := false }, kinds := [], alts := [], laidByText := true, laidKinds := [.data], laidTests := true, laidLooks := .later }
def IvalEnclosesCardSaid : Prop := Claim7.holds Tryd.pinned (.plain (OpenSpec.ofChange ivalEnclosesSpec)) ivalEnclosesCard

/-- THE TIED CARD OF 'ulplaw06.IvalInclusion'. -/
def ivalInclusionCard : Claim7 := { stood := { row := ivalInclusionRow, standIns := [], harness := (true, "db87e672ecbfbeb12d635ff5da61188338deaa64f8c3da17179083a1d4ad58ed"), looks := false }, kinds := [], alts := [], laidByText := true, laidKinds := [.data], laidTests := true, laidLooks := .later }
def IvalInclusionCardSaid : Prop := Claim7.holds Tryd.pinned (.plain (OpenSpec.ofChange ivalInclusionSpec)) ivalInclusionCard

/-- THE TIED CARD OF 'ulplaw06.IvalBack'. -/
def ivalBackCard : Claim7 := { stood := { row := ivalBackRow, standIns := [], harness := (true, "db87e672ecbfbeb12d635ff5da61188338deaa64f8c3da17179083a1d4ad58ed"), looks := false }, kinds := [], alts := [], laidByText := true, laidKinds := [.data], laidTests := true, laidLooks := .later }
def IvalBackCardSaid : Prop := Claim7.holds Tryd.pinned (.plain (OpenSpec.ofChange ivalBackSpec)) ivalBackCard

/-- THE SECOND FORM's CARD OF 'ulplaw06.IvalOwn'. -/
def ivalOwnUptoCard : Claim7 := { stood := { row := ivalOwnUptoRow, standIns := [], harness := (true, "db87e672ecbfbeb12d635ff5da61188338deaa64f8c3da17179083a1d4ad58ed"), looks := false }, kinds := [], alts := [], laidByText := true, laidKinds := [.data], laidTests := true, laidLooks := .later }
def IvalOwnUptoCardSaid : Prop := Claim7.holds Tryd.pinned (.plain (OpenSpec.upto ivalOwnSpec)) ivalOwnUptoCard

/-- THE SECOND FORM's CARD OF 'ulplaw06.IvalForms'. -/
def ivalFormsUptoCard : Claim7 := { stood := { row := ivalFormsUptoRow, standIns := [], harness := (true, "db87e672ecbfbeb12d635ff5da61188338deaa64f8c3da17179083a1d4ad58ed"), looks := false }, kinds := [], alts := [], laidByText := true, laidKinds := [.data], laidTests := true, laidLooks := .later }
def IvalFormsUptoCardSaid : Prop := Claim7.holds Tryd.pinned (.plain (OpenSpec.upto ivalFormsSpec)) ivalFormsUptoCard

/-- THE SECOND FORM's CARD OF 'ulplaw06.IvalNarrow'. -/
def ivalNarrowUptoCard : Claim7 := { stood := { row := ivalNarrowUptoRow, standIns := [], harness := (true, "db87e672ecbfbeb12d635ff5da61188338deaa64f8c3da17179083a1d4ad58ed"), looks := false }, kinds := [], alts := [], laidByText := true, laidKinds := [.data], laidTests := true, laidLooks := .later }
def IvalNarrowUptoCardSaid : Prop := Claim7.holds Tryd.pinned (.plain (OpenSpec.upto ivalNarrowSpec)) ivalNarrowUptoCard

/-- THE SECOND FORM's CARD OF 'ulplaw06.IvalTurns'. -/
def ivalTurnsUptoCard : Claim7 := { stood := { row := ivalTurnsUptoRow, standIns := [], harness := (true, "db87e672ecbfbeb12d635ff5da61188338deaa64f8c3da17179083a1d4ad58ed"), looks := false }, kinds := [], alts := [], laidByText := true, laidKinds := [.data], laidTests := true, laidLooks := .later }
def IvalTurnsUptoCardSaid : Prop := Claim7.holds Tryd.pinned (.plain (OpenSpec.upto ivalTurnsSpec)) ivalTurnsUptoCard

/-- THE SECOND FORM's CARD OF 'ulplaw06.IvalTells'. -/
def ivalTellsUptoCard : Claim7 := { stood := { row := ivalTellsUptoRow, standIns := [], harness := (true, "db87e672ecbfbeb12d635ff5da61188338deaa64f8c3da17179083a1d4ad58ed"), looks := false }, kinds := [], alts := [], laidByText := true, laidKinds := [.data], laidTests := true, laidLooks := .later }
def IvalTellsUptoCardSaid : Prop := Claim7.holds Tryd.pinned (.plain (OpenSpec.upto ivalTellsSpec)) ivalTellsUptoCard

/-- THE SECOND FORM's CARD OF 'ulplaw06.IvalSharp'. -/
def ivalSharpUptoCard : Claim7 := { stood := { row := ivalSharpUptoRow, standIns := [], harness := (true, "db87e672ecbfbeb12d635ff5da61188338deaa64f8c3da17179083a1d4ad58ed"), looks := false }, kinds := [], alts := [], laidByText := true, laidKinds := [.data], laidTests := true, laidLooks := .later }
def IvalSharpUptoCardSaid : Prop := Claim7.holds Tryd.pinned (.plain (OpenSpec.upto ivalSharpSpec)) ivalSharpUptoCard

/-- THE SECOND FORM's CARD OF 'ulplaw06.IvalEncloses'. -/
def ivalEnclosesUptoCard : Claim7 := { stood := { row := ivalEnclosesUptoRow, standIns := [], harness := (true, "db87e672ecbfbeb12d635ff5da61188338deaa64f8c3da17179083a1d4ad58ed"), looks := false }, kinds := [], alts := [], laidByText := true, laidKinds := [.data], laidTests := true, laidLooks := .later }
def IvalEnclosesUptoCardSaid : Prop := Claim7.holds Tryd.pinned (.plain (OpenSpec.upto ivalEnclosesSpec)) ivalEnclosesUptoCard

/-- THE SECOND FORM's CARD OF 'ulplaw06.IvalInclusion'. -/
def ivalInclusionUptoCard : Claim7 := { stood := { row := ivalInclusionUptoRow, standIns := [], harness := (true, "db87e672ecbfbeb12d635ff5da61188338deaa64f8c3da17179083a1d4ad58ed"), looks := false }, kinds := [], alts := [], laidByText := true, laidKinds := [.data], laidTests := true, laidLooks := .later }
def IvalInclusionUptoCardSaid : Prop := Claim7.holds Tryd.pinned (.plain (OpenSpec.upto ivalInclusionSpec)) ivalInclusionUptoCard

/-- THE SECOND FORM's CARD OF 'ulplaw06.IvalBack'. -/
def ivalBackUptoCard : Claim7 := { stood := { row := ivalBackUptoRow, standIns := [], harness := (true, "db87e672ecbfbeb12d635ff5da61188338deaa64f8c3da17179083a1d4ad58ed"), looks := false }, kinds := [], alts := [], laidByText := true, laidKinds := [.data], laidTests := true, laidLooks := .later }
def IvalBackUptoCardSaid : Prop := Claim7.holds Tryd.pinned (.plain (OpenSpec.upto ivalBackSpec)) ivalBackUptoCard
end Rows
end Go.Proofs.YtmfmneanmamjbaaDoor
