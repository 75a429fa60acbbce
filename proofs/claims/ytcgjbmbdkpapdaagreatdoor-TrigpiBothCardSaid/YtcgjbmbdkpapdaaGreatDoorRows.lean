/-
  NARROWER THAN 'FOR EVERY INPUT', by the rows' own cells (each row's printed sentence says how): TrigpiEncloses: laid · TrigpiCircle: laid · TrigpiMirror: laid · TrigpiBoth: laid · TrigpiTurns: laid · TrigpiSums: laid · TrigpiParts: laid.
  DERIVED. THE GIVEN ROWS OF THIS SEAT. 7 by the template 'for every input the law returns true; each argument reads behind the call as it read before'; 0 by the template 'total and deterministic' (their statements: YtcgjbmbdkpapdaaGreatDoorTotals.lean).
  GIVEN WITH THE SEED: the statements are not yours to turn. If you find one false, say at which input.
  Laid BY PROGRAM, IN A SANDBOX (cutbox-rows.mjs): the forced cells as the released guide's own fill.sh prints them over the translation 727fe7452d37a550… (all of the seat's roots in one cut). By AI agents, Wed Nov 11 2026. No macro, syntax, notation, axiom, sorry.
-/
import Derived.Test.YtcgjbmbdkpapdaaGreatDoorChecked
import GoSem.Claim
import GoSem.ClaimJoined
import GoSem.ClaimMapViews
import Derived.JoinedTies
import Derived.KernelRfl
namespace Go.Proofs.YtcgjbmbdkpapdaaGreatDoor
/- THE CELL 'sum', in the pinned program and in every row, IS THE sha256 OF THE DUMP (.gsa) THAT YtcgjbmbdkpapdaaGreatDoorProg.lean LOADS. Nothing in Lean hashes anything: it is a label: what it is worth is what the hold of that sum in a sandbox is worth. -/
noncomputable def Tryz.pinned : Pinned := { name := "ytcgjbmbdkpapdaagreatdoor", sum := "727fe7452d37a550d783543ce69bf34652f3bfce434e541deafa917a01d28805", checked := Tryz.checked }
namespace Rows
def none {H : Type} : Left H := { results := [], args := [] }

/- WHAT THE LISTED PACKAGE-LEVEL VARIABLES READ AS WHEN THE CALL BEGINS. Each datum BY PROGRAM (the guide's laid-datum.mjs) off the statement by which the dump's own 'gosem.cut.vars' lays the variable. In a bare row this is a premise. The card (YtcgjbmbdkpapdaaGreatDoorCards.lean) ties it to the program's text. -/
def laid_math_bits_deBruijn64tab {H : Type} : DataW H := .agg [.lit (.int .u8 0), .lit (.int .u8 1), .lit (.int .u8 56), .lit (.int .u8 2), .lit (.int .u8 57), .lit (.int .u8 49), .lit (.int .u8 28), .lit (.int .u8 3), .lit (.int .u8 61), .lit (.int .u8 58), .lit (.int .u8 42), .lit (.int .u8 50), .lit (.int .u8 38), .lit (.int .u8 29), .lit (.int .u8 17), .lit (.int .u8 4), .lit (.int .u8 62), .lit (.int .u8 47), .lit (.int .u8 59), .lit (.int .u8 36), .lit (.int .u8 45), .lit (.int .u8 43), .lit (.int .u8 51), .lit (.int .u8 22), .lit (.int .u8 53), .lit (.int .u8 39), .lit (.int .u8 33), .lit (.int .u8 30), .lit (.int .u8 24), .lit (.int .u8 18), .lit (.int .u8 12), .lit (.int .u8 5), .lit (.int .u8 63), .lit (.int .u8 55), .lit (.int .u8 48), .lit (.int .u8 27), .lit (.int .u8 60), .lit (.int .u8 41), .lit (.int .u8 37), .lit (.int .u8 16), .lit (.int .u8 46), .lit (.int .u8 35), .lit (.int .u8 44), .lit (.int .u8 21), .lit (.int .u8 52), .lit (.int .u8 32), .lit (.int .u8 23), .lit (.int .u8 11), .lit (.int .u8 54), .lit (.int .u8 26), .lit (.int .u8 40), .lit (.int .u8 15), .lit (.int .u8 34), .lit (.int .u8 20), .lit (.int .u8 31), .lit (.int .u8 10), .lit (.int .u8 25), .lit (.int .u8 14), .lit (.int .u8 19), .lit (.int .u8 9), .lit (.int .u8 13), .lit (.int .u8 8), .lit (.int .u8 7), .lit (.int .u8 6)]

/-- 'ulplaw18.TrigpiEncloses': WHATEVER THE INPUT: true; the input reads as it did. -/
def trigpiEnclosesSpec : ChangeSpec := { name := "trigpiEncloses", fn := fun _ => fun
  | [d1, d2, d3] => { results := [.lit (.bool true)], args := [d1, d2, d3] }
  | _ => none }
def trigpiEnclosesRow : OpenClaim := { program := "ytcgjbmbdkpapdaagreatdoor", sum := "727fe7452d37a550d783543ce69bf34652f3bfce434e541deafa917a01d28805", func := "ulp/ulplaw18.TrigpiEncloses", spec := "trigpiEncloses", inPlace := ["math/bits.Add64", "math/bits.Sub64"], unfollowed := true, recurses := true, named := ["math/bits.deBruijn64tab", "math/bits.divideError", "math/bits.overflowError"], apart := false, laid := [("math/bits.deBruijn64tab", laid_math_bits_deBruijn64tab)] }
def TrigpiEnclosesSaid : Prop := trigpiEnclosesRow.holds Tryz.pinned (OpenSpec.ofChange trigpiEnclosesSpec)

/-- ITS FALSE NEIGHBOUR: 'it returns false'. Refute it at one input. -/
def trigpiEnclosesWrong : ChangeSpec := { name := "trigpiEncloses", fn := fun _ => fun
  | [d1, d2, d3] => { results := [.lit (.bool false)], args := [d1, d2, d3] }
  | _ => none }
def TrigpiEnclosesWrongFalsely : Prop := trigpiEnclosesRow.holds Tryz.pinned (OpenSpec.ofChange trigpiEnclosesWrong)

/-- 'ulplaw18.TrigpiCircle': WHATEVER THE INPUT: true; the input reads as it did. -/
def trigpiCircleSpec : ChangeSpec := { name := "trigpiCircle", fn := fun _ => fun
  | [d1, d2] => { results := [.lit (.bool true)], args := [d1, d2] }
  | _ => none }
def trigpiCircleRow : OpenClaim := { program := "ytcgjbmbdkpapdaagreatdoor", sum := "727fe7452d37a550d783543ce69bf34652f3bfce434e541deafa917a01d28805", func := "ulp/ulplaw18.TrigpiCircle", spec := "trigpiCircle", inPlace := ["math/bits.Add64", "math/bits.Sub64"], unfollowed := true, recurses := true, named := ["math/bits.deBruijn64tab", "math/bits.divideError", "math/bits.overflowError"], apart := false, laid := [("math/bits.deBruijn64tab", laid_math_bits_deBruijn64tab)] }
def TrigpiCircleSaid : Prop := trigpiCircleRow.holds Tryz.pinned (OpenSpec.ofChange trigpiCircleSpec)

/-- ITS FALSE NEIGHBOUR: 'it returns false'. Refute it at one input. -/
def trigpiCircleWrong : ChangeSpec := { name := "trigpiCircle", fn := fun _ => fun
  | [d1, d2] => { results := [.lit (.bool false)], args := [d1, d2] }
  | _ => none }
def TrigpiCircleWrongFalsely : Prop := trigpiCircleRow.holds Tryz.pinned (OpenSpec.ofChange trigpiCircleWrong)

/-- 'ulplaw18.TrigpiMirror': WHATEVER THE INPUT: true; the input reads as it did. -/
def trigpiMirrorSpec : ChangeSpec := { name := "trigpiMirror", fn := fun _ => fun
  | [d1, d2] => { results := [.lit (.bool true)], args := [d1, d2] }
  | _ => none }
def trigpiMirrorRow : OpenClaim := { program := "ytcgjbmbdkpapdaagreatdoor", sum := "727fe7452d37a550d783543ce69bf34652f3bfce434e541deafa917a01d28805", func := "ulp/ulplaw18.TrigpiMirror", spec := "trigpiMirror", inPlace := ["math/bits.Add64", "math/bits.Sub64"], unfollowed := true, recurses := true, named := ["math/bits.deBruijn64tab", "math/bits.divideError", "math/bits.overflowError"], apart := false, laid := [("math/bits.deBruijn64tab", laid_math_bits_deBruijn64tab)] }
def TrigpiMirrorSaid : Prop := trigpiMirrorRow.holds Tryz.pinned (OpenSpec.ofChange trigpiMirrorSpec)

/-- ITS FALSE NEIGHBOUR: 'it returns false'. Refute it at one input. -/
def trigpiMirrorWrong : ChangeSpec := { name := "trigpiMirror", fn := fun _ => fun
  | [d1, d2] => { results := [.lit (.bool false)], args := [d1, d2] }
  | _ => none }
def TrigpiMirrorWrongFalsely : Prop := trigpiMirrorRow.holds Tryz.pinned (OpenSpec.ofChange trigpiMirrorWrong)

/-- 'ulplaw18.TrigpiBoth': WHATEVER THE INPUT: true; the input reads as it did. -/
def trigpiBothSpec : ChangeSpec := { name := "trigpiBoth", fn := fun _ => fun
  | [d1, d2] => { results := [.lit (.bool true)], args := [d1, d2] }
  | _ => none }
def trigpiBothRow : OpenClaim := { program := "ytcgjbmbdkpapdaagreatdoor", sum := "727fe7452d37a550d783543ce69bf34652f3bfce434e541deafa917a01d28805", func := "ulp/ulplaw18.TrigpiBoth", spec := "trigpiBoth", inPlace := ["math/bits.Add64", "math/bits.Sub64"], unfollowed := true, recurses := true, named := ["math/bits.deBruijn64tab", "math/bits.divideError", "math/bits.overflowError"], apart := false, laid := [("math/bits.deBruijn64tab", laid_math_bits_deBruijn64tab)] }
def TrigpiBothSaid : Prop := trigpiBothRow.holds Tryz.pinned (OpenSpec.ofChange trigpiBothSpec)

/-- ITS FALSE NEIGHBOUR: 'it returns false'. Refute it at one input. -/
def trigpiBothWrong : ChangeSpec := { name := "trigpiBoth", fn := fun _ => fun
  | [d1, d2] => { results := [.lit (.bool false)], args := [d1, d2] }
  | _ => none }
def TrigpiBothWrongFalsely : Prop := trigpiBothRow.holds Tryz.pinned (OpenSpec.ofChange trigpiBothWrong)

/-- 'ulplaw18.TrigpiTurns': WHATEVER THE INPUT: true; the input reads as it did. -/
def trigpiTurnsSpec : ChangeSpec := { name := "trigpiTurns", fn := fun _ => fun
  | [d1, d2] => { results := [.lit (.bool true)], args := [d1, d2] }
  | _ => none }
def trigpiTurnsRow : OpenClaim := { program := "ytcgjbmbdkpapdaagreatdoor", sum := "727fe7452d37a550d783543ce69bf34652f3bfce434e541deafa917a01d28805", func := "ulp/ulplaw18.TrigpiTurns", spec := "trigpiTurns", inPlace := ["math/bits.Add64", "math/bits.Sub64"], unfollowed := true, recurses := true, named := ["math/bits.deBruijn64tab", "math/bits.divideError", "math/bits.overflowError"], apart := false, laid := [("math/bits.deBruijn64tab", laid_math_bits_deBruijn64tab)] }
def TrigpiTurnsSaid : Prop := trigpiTurnsRow.holds Tryz.pinned (OpenSpec.ofChange trigpiTurnsSpec)

/-- ITS FALSE NEIGHBOUR: 'it returns false'. Refute it at one input. -/
def trigpiTurnsWrong : ChangeSpec := { name := "trigpiTurns", fn := fun _ => fun
  | [d1, d2] => { results := [.lit (.bool false)], args := [d1, d2] }
  | _ => none }
def TrigpiTurnsWrongFalsely : Prop := trigpiTurnsRow.holds Tryz.pinned (OpenSpec.ofChange trigpiTurnsWrong)

/-- 'ulplaw18.TrigpiSums': WHATEVER THE INPUT: true; the input reads as it did. -/
def trigpiSumsSpec : ChangeSpec := { name := "trigpiSums", fn := fun _ => fun
  | [d1, d2, d3] => { results := [.lit (.bool true)], args := [d1, d2, d3] }
  | _ => none }
def trigpiSumsRow : OpenClaim := { program := "ytcgjbmbdkpapdaagreatdoor", sum := "727fe7452d37a550d783543ce69bf34652f3bfce434e541deafa917a01d28805", func := "ulp/ulplaw18.TrigpiSums", spec := "trigpiSums", inPlace := ["math/bits.Add64", "math/bits.Sub64"], unfollowed := true, recurses := true, named := ["math/bits.deBruijn64tab", "math/bits.divideError", "math/bits.overflowError"], apart := false, laid := [("math/bits.deBruijn64tab", laid_math_bits_deBruijn64tab)] }
def TrigpiSumsSaid : Prop := trigpiSumsRow.holds Tryz.pinned (OpenSpec.ofChange trigpiSumsSpec)

/-- ITS FALSE NEIGHBOUR: 'it returns false'. Refute it at one input. -/
def trigpiSumsWrong : ChangeSpec := { name := "trigpiSums", fn := fun _ => fun
  | [d1, d2, d3] => { results := [.lit (.bool false)], args := [d1, d2, d3] }
  | _ => none }
def TrigpiSumsWrongFalsely : Prop := trigpiSumsRow.holds Tryz.pinned (OpenSpec.ofChange trigpiSumsWrong)

/-- 'ulplaw18.TrigpiParts': WHATEVER THE INPUT: true; the input reads as it did. -/
def trigpiPartsSpec : ChangeSpec := { name := "trigpiParts", fn := fun _ => fun
  | [d1, d2] => { results := [.lit (.bool true)], args := [d1, d2] }
  | _ => none }
def trigpiPartsRow : OpenClaim := { program := "ytcgjbmbdkpapdaagreatdoor", sum := "727fe7452d37a550d783543ce69bf34652f3bfce434e541deafa917a01d28805", func := "ulp/ulplaw18.TrigpiParts", spec := "trigpiParts", inPlace := ["math/bits.Add64", "math/bits.Sub64"], unfollowed := true, recurses := true, named := ["math/bits.deBruijn64tab", "math/bits.divideError", "math/bits.overflowError"], apart := false, laid := [("math/bits.deBruijn64tab", laid_math_bits_deBruijn64tab)] }
def TrigpiPartsSaid : Prop := trigpiPartsRow.holds Tryz.pinned (OpenSpec.ofChange trigpiPartsSpec)

/-- ITS FALSE NEIGHBOUR: 'it returns false'. Refute it at one input. -/
def trigpiPartsWrong : ChangeSpec := { name := "trigpiParts", fn := fun _ => fun
  | [d1, d2] => { results := [.lit (.bool false)], args := [d1, d2] }
  | _ => none }
def TrigpiPartsWrongFalsely : Prop := trigpiPartsRow.holds Tryz.pinned (OpenSpec.ofChange trigpiPartsWrong)

/- THE SECOND FORM. 'bulk': how many values and letters a reading holds, each counted each time it is reached (what is shared counts as often as it is met; a slice's spare places count too). A statement '..UptoSaid' is the law's where the arguments, and the package variables that the reading takes, are together of bulk at most 1048576: NARROWER than '..Said'. Prove '..Said' where nothing that the law and all that it calls make is longer than what came in: it says more and counts as full. Else prove '..UptoSaid'. A law counts once. -/
mutual
def uptoBulk {H : Type} : DataW H → Nat
  | .lit (.string bytes) => bytes.length + 1
  | .lit _ => 1
  | .nil => 1
  | .ptr d => uptoBulk d + 1
  | .slice elems spare => uptoBulkAll elems + uptoBulkAll spare + 1
  | .agg parts => uptoBulkAll parts + 1
  | .iface _ d => uptoBulk d + 1
  | .map entries => uptoBulkEntries entries + 1
  | .held _ => 1
def uptoBulkAll {H : Type} : List (DataW H) → Nat
  | [] => 0
  | d :: r => uptoBulk d + uptoBulkAll r
def uptoBulkEntries {H : Type} : List (Lit × DataW H) → Nat
  | [] => 0
  | x :: r => uptoBulkEntry x + uptoBulkEntries r
def uptoBulkEntry {H : Type} : Lit × DataW H → Nat
  | (.string bytes, d) => bytes.length + uptoBulk d + 1
  | (_, d) => uptoBulk d + 1
 end
def uptoSmall : (H : Type) → List (DataW H) → Bool := fun _ ds => decide (uptoBulkAll ds ≤ 1048576)
def OpenSpec.upto (s : _root_.Go.ChangeSpec) : _root_.Go.OpenSpec := { _root_.Go.OpenSpec.ofChange s with cond := some uptoSmall }

/-- 'ulplaw18.TrigpiEncloses', WHERE WHAT IT READS IS OF BULK AT MOST 1048576: true; the input reads as it did. -/
def trigpiEnclosesUptoRow : OpenClaim := { program := "ytcgjbmbdkpapdaagreatdoor", sum := "727fe7452d37a550d783543ce69bf34652f3bfce434e541deafa917a01d28805", func := "ulp/ulplaw18.TrigpiEncloses", spec := "trigpiEncloses", inPlace := ["math/bits.Add64", "math/bits.Sub64"], unfollowed := true, recurses := true, named := ["math/bits.deBruijn64tab", "math/bits.divideError", "math/bits.overflowError"], apart := false, laid := [("math/bits.deBruijn64tab", laid_math_bits_deBruijn64tab)], narrowed := true }
def TrigpiEnclosesUptoSaid : Prop := trigpiEnclosesUptoRow.holds Tryz.pinned (OpenSpec.upto trigpiEnclosesSpec)

/-- 'ulplaw18.TrigpiCircle', WHERE WHAT IT READS IS OF BULK AT MOST 1048576: true; the input reads as it did. -/
def trigpiCircleUptoRow : OpenClaim := { program := "ytcgjbmbdkpapdaagreatdoor", sum := "727fe7452d37a550d783543ce69bf34652f3bfce434e541deafa917a01d28805", func := "ulp/ulplaw18.TrigpiCircle", spec := "trigpiCircle", inPlace := ["math/bits.Add64", "math/bits.Sub64"], unfollowed := true, recurses := true, named := ["math/bits.deBruijn64tab", "math/bits.divideError", "math/bits.overflowError"], apart := false, laid := [("math/bits.deBruijn64tab", laid_math_bits_deBruijn64tab)], narrowed := true }
def TrigpiCircleUptoSaid : Prop := trigpiCircleUptoRow.holds Tryz.pinned (OpenSpec.upto trigpiCircleSpec)

/-- 'ulplaw18.TrigpiMirror', WHERE WHAT IT READS IS OF BULK AT MOST 1048576: true; the input reads as it did. -/
def trigpiMirrorUptoRow : OpenClaim := { program := "ytcgjbmbdkpapdaagreatdoor", sum := "727fe7452d37a550d783543ce69bf34652f3bfce434e541deafa917a01d28805", func := "ulp/ulplaw18.TrigpiMirror", spec := "trigpiMirror", inPlace := ["math/bits.Add64", "math/bits.Sub64"], unfollowed := true, recurses := true, named := ["math/bits.deBruijn64tab", "math/bits.divideError", "math/bits.overflowError"], apart := false, laid := [("math/bits.deBruijn64tab", laid_math_bits_deBruijn64tab)], narrowed := true }
def TrigpiMirrorUptoSaid : Prop := trigpiMirrorUptoRow.holds Tryz.pinned (OpenSpec.upto trigpiMirrorSpec)

/-- 'ulplaw18.TrigpiBoth', WHERE WHAT IT READS IS OF BULK AT MOST 1048576: true; the input reads as it did. -/
def trigpiBothUptoRow : OpenClaim := { program := "ytcgjbmbdkpapdaagreatdoor", sum := "727fe7452d37a550d783543ce69bf34652f3bfce434e541deafa917a01d28805", func := "ulp/ulplaw18.TrigpiBoth", spec := "trigpiBoth", inPlace := ["math/bits.Add64", "math/bits.Sub64"], unfollowed := true, recurses := true, named := ["math/bits.deBruijn64tab", "math/bits.divideError", "math/bits.overflowError"], apart := false, laid := [("math/bits.deBruijn64tab", laid_math_bits_deBruijn64tab)], narrowed := true }
def TrigpiBothUptoSaid : Prop := trigpiBothUptoRow.holds Tryz.pinned (OpenSpec.upto trigpiBothSpec)

/-- 'ulplaw18.TrigpiTurns', WHERE WHAT IT READS IS OF BULK AT MOST 1048576: true; the input reads as it did. -/
def trigpiTurnsUptoRow : OpenClaim := { program := "ytcgjbmbdkpapdaagreatdoor", sum := "727fe7452d37a550d783543ce69bf34652f3bfce434e541deafa917a01d28805", func := "ulp/ulplaw18.TrigpiTurns", spec := "trigpiTurns", inPlace := ["math/bits.Add64", "math/bits.Sub64"], unfollowed := true, recurses := true, named := ["math/bits.deBruijn64tab", "math/bits.divideError", "math/bits.overflowError"], apart := false, laid := [("math/bits.deBruijn64tab", laid_math_bits_deBruijn64tab)], narrowed := true }
def TrigpiTurnsUptoSaid : Prop := trigpiTurnsUptoRow.holds Tryz.pinned (OpenSpec.upto trigpiTurnsSpec)

/-- 'ulplaw18.TrigpiSums', WHERE WHAT IT READS IS OF BULK AT MOST 1048576: true; the input reads as it did. -/
def trigpiSumsUptoRow : OpenClaim := { program := "ytcgjbmbdkpapdaagreatdoor", sum := "727fe7452d37a550d783543ce69bf34652f3bfce434e541deafa917a01d28805", func := "ulp/ulplaw18.TrigpiSums", spec := "trigpiSums", inPlace := ["math/bits.Add64", "math/bits.Sub64"], unfollowed := true, recurses := true, named := ["math/bits.deBruijn64tab", "math/bits.divideError", "math/bits.overflowError"], apart := false, laid := [("math/bits.deBruijn64tab", laid_math_bits_deBruijn64tab)], narrowed := true }
def TrigpiSumsUptoSaid : Prop := trigpiSumsUptoRow.holds Tryz.pinned (OpenSpec.upto trigpiSumsSpec)

/-- 'ulplaw18.TrigpiParts', WHERE WHAT IT READS IS OF BULK AT MOST 1048576: true; the input reads as it did. -/
def trigpiPartsUptoRow : OpenClaim := { program := "ytcgjbmbdkpapdaagreatdoor", sum := "727fe7452d37a550d783543ce69bf34652f3bfce434e541deafa917a01d28805", func := "ulp/ulplaw18.TrigpiParts", spec := "trigpiParts", inPlace := ["math/bits.Add64", "math/bits.Sub64"], unfollowed := true, recurses := true, named := ["math/bits.deBruijn64tab", "math/bits.divideError", "math/bits.overflowError"], apart := false, laid := [("math/bits.deBruijn64tab", laid_math_bits_deBruijn64tab)], narrowed := true }
def TrigpiPartsUptoSaid : Prop := trigpiPartsUptoRow.holds Tryz.pinned (OpenSpec.upto trigpiPartsSpec)

end Rows
end Go.Proofs.YtcgjbmbdkpapdaaGreatDoor
