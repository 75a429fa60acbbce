/-
  NARROWER THAN 'FOR EVERY INPUT', by the rows' own cells (each row's printed sentence says how): SincoreEncloses: laid · SincoreCircle: laid · SincoreMirror: laid · SincoreBounds: laid · SincoreBoth: laid · SincoreOwn: laid.
  DERIVED. THE GIVEN ROWS OF THIS SEAT. 6 by the template 'for every input the law returns true; each argument reads behind the call as it read before'; 0 by the template 'total and deterministic' (their statements: YtlpjmikpndllhaaGreatDoorTotals.lean).
  GIVEN WITH THE SEED: the statements are not yours to turn. If you find one false, say at which input.
  Laid BY PROGRAM, IN A SANDBOX (cutbox-rows.mjs): the forced cells as the released guide's own fill.sh prints them over the translation ba6fcdad69fa4909… (all of the seat's roots in one cut). By AI agents, Wed Nov 11 2026. No macro, syntax, notation, axiom, sorry.
-/
import Derived.Test.YtlpjmikpndllhaaGreatDoorChecked
import GoSem.Claim
import GoSem.ClaimJoined
import GoSem.ClaimMapViews
import Derived.JoinedTies
import Derived.KernelRfl
namespace Go.Proofs.YtlpjmikpndllhaaGreatDoor
/- THE CELL 'sum', in the pinned program and in every row, IS THE sha256 OF THE DUMP (.gsa) THAT YtlpjmikpndllhaaGreatDoorProg.lean LOADS. Nothing in Lean hashes anything: it is a label: what it is worth is what the hold of that sum in a sandbox is worth. -/
noncomputable def Tryz.pinned : Pinned := { name := "ytlpjmikpndllhaagreatdoor", sum := "ba6fcdad69fa4909d383740d4d8ce7699c5146e6d95030aa02078542cc4e24be", checked := Tryz.checked }
namespace Rows
def none {H : Type} : Left H := { results := [], args := [] }

/- WHAT THE LISTED PACKAGE-LEVEL VARIABLES READ AS WHEN THE CALL BEGINS. Each datum BY PROGRAM (the guide's laid-datum.mjs) off the statement by which the dump's own 'gosem.cut.vars' lays the variable. In a bare row this is a premise. The card (YtlpjmikpndllhaaGreatDoorCards.lean) ties it to the program's text. -/
def laid_math_bits_deBruijn64tab {H : Type} : DataW H := .agg [.lit (.int .u8 0), .lit (.int .u8 1), .lit (.int .u8 56), .lit (.int .u8 2), .lit (.int .u8 57), .lit (.int .u8 49), .lit (.int .u8 28), .lit (.int .u8 3), .lit (.int .u8 61), .lit (.int .u8 58), .lit (.int .u8 42), .lit (.int .u8 50), .lit (.int .u8 38), .lit (.int .u8 29), .lit (.int .u8 17), .lit (.int .u8 4), .lit (.int .u8 62), .lit (.int .u8 47), .lit (.int .u8 59), .lit (.int .u8 36), .lit (.int .u8 45), .lit (.int .u8 43), .lit (.int .u8 51), .lit (.int .u8 22), .lit (.int .u8 53), .lit (.int .u8 39), .lit (.int .u8 33), .lit (.int .u8 30), .lit (.int .u8 24), .lit (.int .u8 18), .lit (.int .u8 12), .lit (.int .u8 5), .lit (.int .u8 63), .lit (.int .u8 55), .lit (.int .u8 48), .lit (.int .u8 27), .lit (.int .u8 60), .lit (.int .u8 41), .lit (.int .u8 37), .lit (.int .u8 16), .lit (.int .u8 46), .lit (.int .u8 35), .lit (.int .u8 44), .lit (.int .u8 21), .lit (.int .u8 52), .lit (.int .u8 32), .lit (.int .u8 23), .lit (.int .u8 11), .lit (.int .u8 54), .lit (.int .u8 26), .lit (.int .u8 40), .lit (.int .u8 15), .lit (.int .u8 34), .lit (.int .u8 20), .lit (.int .u8 31), .lit (.int .u8 10), .lit (.int .u8 25), .lit (.int .u8 14), .lit (.int .u8 19), .lit (.int .u8 9), .lit (.int .u8 13), .lit (.int .u8 8), .lit (.int .u8 7), .lit (.int .u8 6)]

/-- 'ulplaw13.SincoreEncloses': WHATEVER THE INPUT: true; the input reads as it did. -/
def sincoreEnclosesSpec : ChangeSpec := { name := "sincoreEncloses", fn := fun _ => fun
  | [d1, d2] => { results := [.lit (.bool true)], args := [d1, d2] }
  | _ => none }
def sincoreEnclosesRow : OpenClaim := { program := "ytlpjmikpndllhaagreatdoor", sum := "ba6fcdad69fa4909d383740d4d8ce7699c5146e6d95030aa02078542cc4e24be", func := "ulp/ulplaw13.SincoreEncloses", spec := "sincoreEncloses", inPlace := ["math/bits.Add64", "math/bits.Sub64"], unfollowed := true, recurses := true, named := ["math/bits.deBruijn64tab", "math/bits.divideError", "math/bits.overflowError"], apart := false, laid := [("math/bits.deBruijn64tab", laid_math_bits_deBruijn64tab)] }
def SincoreEnclosesSaid : Prop := sincoreEnclosesRow.holds Tryz.pinned (OpenSpec.ofChange sincoreEnclosesSpec)

/-- ITS FALSE NEIGHBOUR: 'it returns false'. Refute it at one input. -/
def sincoreEnclosesWrong : ChangeSpec := { name := "sincoreEncloses", fn := fun _ => fun
  | [d1, d2] => { results := [.lit (.bool false)], args := [d1, d2] }
  | _ => none }
def SincoreEnclosesWrongFalsely : Prop := sincoreEnclosesRow.holds Tryz.pinned (OpenSpec.ofChange sincoreEnclosesWrong)

/-- 'ulplaw13.SincoreCircle': WHATEVER THE INPUT: true; the input reads as it did. -/
def sincoreCircleSpec : ChangeSpec := { name := "sincoreCircle", fn := fun _ => fun
  | [d1, d2, d3] => { results := [.lit (.bool true)], args := [d1, d2, d3] }
  | _ => none }
def sincoreCircleRow : OpenClaim := { program := "ytlpjmikpndllhaagreatdoor", sum := "ba6fcdad69fa4909d383740d4d8ce7699c5146e6d95030aa02078542cc4e24be", func := "ulp/ulplaw13.SincoreCircle", spec := "sincoreCircle", inPlace := ["math/bits.Add64", "math/bits.Sub64"], unfollowed := true, recurses := true, named := ["math/bits.deBruijn64tab", "math/bits.divideError", "math/bits.overflowError"], apart := false, laid := [("math/bits.deBruijn64tab", laid_math_bits_deBruijn64tab)] }
def SincoreCircleSaid : Prop := sincoreCircleRow.holds Tryz.pinned (OpenSpec.ofChange sincoreCircleSpec)

/-- ITS FALSE NEIGHBOUR: 'it returns false'. Refute it at one input. -/
def sincoreCircleWrong : ChangeSpec := { name := "sincoreCircle", fn := fun _ => fun
  | [d1, d2, d3] => { results := [.lit (.bool false)], args := [d1, d2, d3] }
  | _ => none }
def SincoreCircleWrongFalsely : Prop := sincoreCircleRow.holds Tryz.pinned (OpenSpec.ofChange sincoreCircleWrong)

/-- 'ulplaw13.SincoreMirror': WHATEVER THE INPUT: true; the input reads as it did. -/
def sincoreMirrorSpec : ChangeSpec := { name := "sincoreMirror", fn := fun _ => fun
  | [d1, d2, d3] => { results := [.lit (.bool true)], args := [d1, d2, d3] }
  | _ => none }
def sincoreMirrorRow : OpenClaim := { program := "ytlpjmikpndllhaagreatdoor", sum := "ba6fcdad69fa4909d383740d4d8ce7699c5146e6d95030aa02078542cc4e24be", func := "ulp/ulplaw13.SincoreMirror", spec := "sincoreMirror", inPlace := ["math/bits.Add64", "math/bits.Sub64"], unfollowed := true, recurses := true, named := ["math/bits.deBruijn64tab", "math/bits.divideError", "math/bits.overflowError"], apart := false, laid := [("math/bits.deBruijn64tab", laid_math_bits_deBruijn64tab)] }
def SincoreMirrorSaid : Prop := sincoreMirrorRow.holds Tryz.pinned (OpenSpec.ofChange sincoreMirrorSpec)

/-- ITS FALSE NEIGHBOUR: 'it returns false'. Refute it at one input. -/
def sincoreMirrorWrong : ChangeSpec := { name := "sincoreMirror", fn := fun _ => fun
  | [d1, d2, d3] => { results := [.lit (.bool false)], args := [d1, d2, d3] }
  | _ => none }
def SincoreMirrorWrongFalsely : Prop := sincoreMirrorRow.holds Tryz.pinned (OpenSpec.ofChange sincoreMirrorWrong)

/-- 'ulplaw13.SincoreBounds': WHATEVER THE INPUT: true; the input reads as it did. -/
def sincoreBoundsSpec : ChangeSpec := { name := "sincoreBounds", fn := fun _ => fun
  | [d1, d2] => { results := [.lit (.bool true)], args := [d1, d2] }
  | _ => none }
def sincoreBoundsRow : OpenClaim := { program := "ytlpjmikpndllhaagreatdoor", sum := "ba6fcdad69fa4909d383740d4d8ce7699c5146e6d95030aa02078542cc4e24be", func := "ulp/ulplaw13.SincoreBounds", spec := "sincoreBounds", inPlace := ["math/bits.Add64", "math/bits.Sub64"], unfollowed := true, recurses := true, named := ["math/bits.deBruijn64tab", "math/bits.divideError", "math/bits.overflowError"], apart := false, laid := [("math/bits.deBruijn64tab", laid_math_bits_deBruijn64tab)] }
def SincoreBoundsSaid : Prop := sincoreBoundsRow.holds Tryz.pinned (OpenSpec.ofChange sincoreBoundsSpec)

/-- ITS FALSE NEIGHBOUR: 'it returns false'. Refute it at one input. -/
def sincoreBoundsWrong : ChangeSpec := { name := "sincoreBounds", fn := fun _ => fun
  | [d1, d2] => { results := [.lit (.bool false)], args := [d1, d2] }
  | _ => none }
def SincoreBoundsWrongFalsely : Prop := sincoreBoundsRow.holds Tryz.pinned (OpenSpec.ofChange sincoreBoundsWrong)

/-- 'ulplaw13.SincoreBoth': WHATEVER THE INPUT: true; the input reads as it did. -/
def sincoreBothSpec : ChangeSpec := { name := "sincoreBoth", fn := fun _ => fun
  | [d1, d2, d3] => { results := [.lit (.bool true)], args := [d1, d2, d3] }
  | _ => none }
def sincoreBothRow : OpenClaim := { program := "ytlpjmikpndllhaagreatdoor", sum := "ba6fcdad69fa4909d383740d4d8ce7699c5146e6d95030aa02078542cc4e24be", func := "ulp/ulplaw13.SincoreBoth", spec := "sincoreBoth", inPlace := ["math/bits.Add64", "math/bits.Sub64"], unfollowed := true, recurses := true, named := ["math/bits.deBruijn64tab", "math/bits.divideError", "math/bits.overflowError"], apart := false, laid := [("math/bits.deBruijn64tab", laid_math_bits_deBruijn64tab)] }
def SincoreBothSaid : Prop := sincoreBothRow.holds Tryz.pinned (OpenSpec.ofChange sincoreBothSpec)

/-- ITS FALSE NEIGHBOUR: 'it returns false'. Refute it at one input. -/
def sincoreBothWrong : ChangeSpec := { name := "sincoreBoth", fn := fun _ => fun
  | [d1, d2, d3] => { results := [.lit (.bool false)], args := [d1, d2, d3] }
  | _ => none }
def SincoreBothWrongFalsely : Prop := sincoreBothRow.holds Tryz.pinned (OpenSpec.ofChange sincoreBothWrong)

/-- 'ulplaw13.SincoreOwn': WHATEVER THE INPUT: true; the input reads as it did. -/
def sincoreOwnSpec : ChangeSpec := { name := "sincoreOwn", fn := fun _ => fun
  | [d1, d2] => { results := [.lit (.bool true)], args := [d1, d2] }
  | _ => none }
def sincoreOwnRow : OpenClaim := { program := "ytlpjmikpndllhaagreatdoor", sum := "ba6fcdad69fa4909d383740d4d8ce7699c5146e6d95030aa02078542cc4e24be", func := "ulp/ulplaw13.SincoreOwn", spec := "sincoreOwn", inPlace := ["math/bits.Add64", "math/bits.Sub64"], unfollowed := true, recurses := true, named := ["math/bits.deBruijn64tab", "math/bits.divideError", "math/bits.overflowError"], apart := false, laid := [("math/bits.deBruijn64tab", laid_math_bits_deBruijn64tab)] }
def SincoreOwnSaid : Prop := sincoreOwnRow.holds Tryz.pinned (OpenSpec.ofChange sincoreOwnSpec)

/-- ITS FALSE NEIGHBOUR: 'it returns false'. Refute it at one input. -/
def sincoreOwnWrong : ChangeSpec := { name := "sincoreOwn", fn := fun _ => fun
  | [d1, d2] => { results := [.lit (.bool false)], args := [d1, d2] }
  | _ => none }
def SincoreOwnWrongFalsely : Prop := sincoreOwnRow.holds Tryz.pinned (OpenSpec.ofChange sincoreOwnWrong)

/- THE SECOND FORM. 'bulk': how many values and letters a reading holds, each counted each time it is reached (what is shared counts as often as it is met; a slice's spare places count too). A statement '..UptoSaid' is the law's where the arguments, and the package variables that the reading takes, are together of bulk at most 1048576: NARROWER than '..Said'. Prove '..Said' where nothing that the law and all that it calls make is longer than what came in: it says more and counts as full. Else prove '..UptoSaid'. A law counts once. -/
mutual
def uptoBulk {H : Type} : DataW H → Nat
  | .lit (.string bytes) => bytes.length + 1
  | .lit _ => 1
  | .nil => 1
  | .ptr d => uptoBulk d + 1
  | .slice elems spare => uptoBulkAll elems + uptoBulkAll spare + 1
  | .agg parts => uptoBulkAll parts + 1
  | .iface _ d => uptoBulk d + 1
  | .map entries => uptoBulkEntries entries + 1
  | .held _ => 1
def uptoBulkAll {H : Type} : List (DataW H) → Nat
  | [] => 0
  | d :: r => uptoBulk d + uptoBulkAll r
def uptoBulkEntries {H : Type} : List (Lit × DataW H) → Nat
  | [] => 0
  | x :: r => uptoBulkEntry x + uptoBulkEntries r
def uptoBulkEntry {H : Type} : Lit × DataW H → Nat
  | (.string bytes, d) => bytes.length + uptoBulk d + 1
  | (_, d) => uptoBulk d + 1
 end
def uptoSmall : (H : Type) → List (DataW H) → Bool := fun _ ds => decide (uptoBulkAll ds ≤ 1048576)
def OpenSpec.upto (s : _root_.Go.ChangeSpec) : _root_.Go.OpenSpec := { _root_.Go.OpenSpec.ofChange s with cond := some uptoSmall }

/-- 'ulplaw13.SincoreEncloses', WHERE WHAT IT READS IS OF BULK AT MOST 1048576: true; the input reads as it did. -/
def sincoreEnclosesUptoRow : OpenClaim := { program := "ytlpjmikpndllhaagreatdoor", sum := "ba6fcdad69fa4909d383740d4d8ce7699c5146e6d95030aa02078542cc4e24be", func := "ulp/ulplaw13.SincoreEncloses", spec := "sincoreEncloses", inPlace := ["math/bits.Add64", "math/bits.Sub64"], unfollowed := true, recurses := true, named := ["math/bits.deBruijn64tab", "math/bits.divideError", "math/bits.overflowError"], apart := false, laid := [("math/bits.deBruijn64tab", laid_math_bits_deBruijn64tab)], narrowed := true }
def SincoreEnclosesUptoSaid : Prop := sincoreEnclosesUptoRow.holds Tryz.pinned (OpenSpec.upto sincoreEnclosesSpec)

/-- 'ulplaw13.SincoreCircle', WHERE WHAT IT READS IS OF BULK AT MOST 1048576: true; the input reads as it did. -/
def sincoreCircleUptoRow : OpenClaim := { program := "ytlpjmikpndllhaagreatdoor", sum := "ba6fcdad69fa4909d383740d4d8ce7699c5146e6d95030aa02078542cc4e24be", func := "ulp/ulplaw13.SincoreCircle", spec := "sincoreCircle", inPlace := ["math/bits.Add64", "math/bits.Sub64"], unfollowed := true, recurses := true, named := ["math/bits.deBruijn64tab", "math/bits.divideError", "math/bits.overflowError"], apart := false, laid := [("math/bits.deBruijn64tab", laid_math_bits_deBruijn64tab)], narrowed := true }
def SincoreCircleUptoSaid : Prop := sincoreCircleUptoRow.holds Tryz.pinned (OpenSpec.upto sincoreCircleSpec)

/-- 'ulplaw13.SincoreMirror', WHERE WHAT IT READS IS OF BULK AT MOST 1048576: true; the input reads as it did. -/
def sincoreMirrorUptoRow : OpenClaim := { program := "ytlpjmikpndllhaagreatdoor", sum := "ba6fcdad69fa4909d383740d4d8ce7699c5146e6d95030aa02078542cc4e24be", func := "ulp/ulplaw13.SincoreMirror", spec := "sincoreMirror", inPlace := ["math/bits.Add64", "math/bits.Sub64"], unfollowed := true, recurses := true, named := ["math/bits.deBruijn64tab", "math/bits.divideError", "math/bits.overflowError"], apart := false, laid := [("math/bits.deBruijn64tab", laid_math_bits_deBruijn64tab)], narrowed := true }
def SincoreMirrorUptoSaid : Prop := sincoreMirrorUptoRow.holds Tryz.pinned (OpenSpec.upto sincoreMirrorSpec)

/-- 'ulplaw13.SincoreBounds', WHERE WHAT IT READS IS OF BULK AT MOST 1048576: true; the input reads as it did. -/
def sincoreBoundsUptoRow : OpenClaim := { program := "ytlpjmikpndllhaagreatdoor", sum := "ba6fcdad69fa4909d383740d4d8ce7699c5146e6d95030aa02078542cc4e24be", func := "ulp/ulplaw13.SincoreBounds", spec := "sincoreBounds", inPlace := ["math/bits.Add64", "math/bits.Sub64"], unfollowed := true, recurses := true, named := ["math/bits.deBruijn64tab", "math/bits.divideError", "math/bits.overflowError"], apart := false, laid := [("math/bits.deBruijn64tab", laid_math_bits_deBruijn64tab)], narrowed := true }
def SincoreBoundsUptoSaid : Prop := sincoreBoundsUptoRow.holds Tryz.pinned (OpenSpec.upto sincoreBoundsSpec)

/-- 'ulplaw13.SincoreBoth', WHERE WHAT IT READS IS OF BULK AT MOST 1048576: true; the input reads as it did. -/
def sincoreBothUptoRow : OpenClaim := { program := "ytlpjmikpndllhaagreatdoor", sum := "ba6fcdad69fa4909d383740d4d8ce7699c5146e6d95030aa02078542cc4e24be", func := "ulp/ulplaw13.SincoreBoth", spec := "sincoreBoth", inPlace := ["math/bits.Add64", "math/bits.Sub64"], unfollowed := true, recurses := true, named := ["math/bits.deBruijn64tab", "math/bits.divideError", "math/bits.overflowError"], apart := false, laid := [("math/bits.deBruijn64tab", laid_math_bits_deBruijn64tab)], narrowed := true }
def SincoreBothUptoSaid : Prop := sincoreBothUptoRow.holds Tryz.pinned (OpenSpec.upto sincoreBothSpec)

/-- 'ulplaw13.SincoreOwn', WHERE WHAT IT READS IS OF BULK AT MOST 1048576: true; the input reads as it did. -/
def sincoreOwnUptoRow : OpenClaim := { program := "ytlpjmikpndllhaagreatdoor", sum := "ba6fcdad69fa4909d383740d4d8ce7699c5146e6d95030aa02078542cc4e24be", func := "ulp/ulplaw13.SincoreOwn", spec := "sincoreOwn", inPlace := ["math/bits.Add64", "math/bits.Sub64"], unfollowed := true, recurses := true, named := ["math/bits.deBruijn64tab", "math/bits.divideError", "math/bits.overflowError"], apart := false, laid := [("math/bits.deBruijn64tab", laid_math_bits_deBruijn64tab)], narrowed := true }
def SincoreOwnUptoSaid : Prop := sincoreOwnUptoRow.holds Tryz.pinned (OpenSpec.upto sincoreOwnSpec)

end Rows
end Go.Proofs.YtlpjmikpndllhaaGreatDoor
