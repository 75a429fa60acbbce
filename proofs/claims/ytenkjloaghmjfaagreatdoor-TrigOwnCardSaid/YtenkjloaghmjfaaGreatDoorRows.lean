/-
  NARROWER THAN 'FOR EVERY INPUT', by the rows' own cells (each row's printed sentence says how): TrigEncloses: laid · TrigCircle: laid · TrigTwice: laid · TrigBounds: laid · TrigMirror: laid · TrigBoth: laid · TrigOwn: laid.
  DERIVED. THE GIVEN ROWS OF THIS SEAT. 7 by the template 'for every input the law returns true; each argument reads behind the call as it read before'; 0 by the template 'total and deterministic' (their statements: YtenkjloaghmjfaaGreatDoorTotals.lean).
  GIVEN WITH THE SEED: the statements are not yours to turn. If you find one false, say at which input.
  Laid BY PROGRAM, IN A SANDBOX (cutbox-rows.mjs): the forced cells as the released guide's own fill.sh prints them over the translation 7f27523f369747b6… (all of the seat's roots in one cut). By AI agents, Wed Nov 11 2026. No macro, syntax, notation, axiom, sorry.
-/
import Derived.Test.YtenkjloaghmjfaaGreatDoorChecked
import GoSem.Claim
import GoSem.ClaimJoined
import GoSem.ClaimMapViews
import Derived.JoinedTies
import Derived.KernelRfl
namespace Go.Proofs.YtenkjloaghmjfaaGreatDoor
/- THE CELL 'sum', in the pinned program and in every row, IS THE sha256 OF THE DUMP (.gsa) THAT YtenkjloaghmjfaaGreatDoorProg.lean LOADS. Nothing in Lean hashes anything: it is a label: what it is worth is what the hold of that sum in a sandbox is worth. -/
noncomputable def Tryz.pinned : Pinned := { name := "ytenkjloaghmjfaagreatdoor", sum := "7f27523f369747b6a2435183fd0525366c0678dd7903ce7a1db519019e046f3b", checked := Tryz.checked }
namespace Rows
def none {H : Type} : Left H := { results := [], args := [] }

/- WHAT THE LISTED PACKAGE-LEVEL VARIABLES READ AS WHEN THE CALL BEGINS. Each datum BY PROGRAM (the guide's laid-datum.mjs) off the statement by which the dump's own 'gosem.cut.vars' lays the variable. In a bare row this is a premise. The card (YtenkjloaghmjfaaGreatDoorCards.lean) ties it to the program's text. -/
def laid_math_bits_deBruijn64tab {H : Type} : DataW H := .agg [.lit (.int .u8 0), .lit (.int .u8 1), .lit (.int .u8 56), .lit (.int .u8 2), .lit (.int .u8 57), .lit (.int .u8 49), .lit (.int .u8 28), .lit (.int .u8 3), .lit (.int .u8 61), .lit (.int .u8 58), .lit (.int .u8 42), .lit (.int .u8 50), .lit (.int .u8 38), .lit (.int .u8 29), .lit (.int .u8 17), .lit (.int .u8 4), .lit (.int .u8 62), .lit (.int .u8 47), .lit (.int .u8 59), .lit (.int .u8 36), .lit (.int .u8 45), .lit (.int .u8 43), .lit (.int .u8 51), .lit (.int .u8 22), .lit (.int .u8 53), .lit (.int .u8 39), .lit (.int .u8 33), .lit (.int .u8 30), .lit (.int .u8 24), .lit (.int .u8 18), .lit (.int .u8 12), .lit (.int .u8 5), .lit (.int .u8 63), .lit (.int .u8 55), .lit (.int .u8 48), .lit (.int .u8 27), .lit (.int .u8 60), .lit (.int .u8 41), .lit (.int .u8 37), .lit (.int .u8 16), .lit (.int .u8 46), .lit (.int .u8 35), .lit (.int .u8 44), .lit (.int .u8 21), .lit (.int .u8 52), .lit (.int .u8 32), .lit (.int .u8 23), .lit (.int .u8 11), .lit (.int .u8 54), .lit (.int .u8 26), .lit (.int .u8 40), .lit (.int .u8 15), .lit (.int .u8 34), .lit (.int .u8 20), .lit (.int .u8 31), .lit (.int .u8 10), .lit (.int .u8 25), .lit (.int .u8 14), .lit (.int .u8 19), .lit (.int .u8 9), .lit (.int .u8 13), .lit (.int .u8 8), .lit (.int .u8 7), .lit (.int .u8 6)]
def laid_ulp_trig_turns {H : Type} : DataW H := .agg [.agg [.lit (.int .i64 0), .lit (.int .i64 1), .lit (.bool false), .lit (.bool false)], .agg [.lit (.int .i64 1), .lit (.int .i64 0), .lit (.bool false), .lit (.bool true)], .agg [.lit (.int .i64 0), .lit (.int .i64 1), .lit (.bool true), .lit (.bool true)], .agg [.lit (.int .i64 1), .lit (.int .i64 0), .lit (.bool true), .lit (.bool false)]]

/-- 'ulplaw17.TrigEncloses': WHATEVER THE INPUT: true; the input reads as it did. -/
def trigEnclosesSpec : ChangeSpec := { name := "trigEncloses", fn := fun _ => fun
  | [d1, d2, d3] => { results := [.lit (.bool true)], args := [d1, d2, d3] }
  | _ => none }
def trigEnclosesRow : OpenClaim := { program := "ytenkjloaghmjfaagreatdoor", sum := "7f27523f369747b6a2435183fd0525366c0678dd7903ce7a1db519019e046f3b", func := "ulp/ulplaw17.TrigEncloses", spec := "trigEncloses", inPlace := ["math/bits.Add64", "math/bits.Sub64"], unfollowed := true, recurses := true, named := ["math/bits.deBruijn64tab", "ulp/trig.turns", "math/bits.divideError", "math/bits.overflowError"], apart := false, laid := [("math/bits.deBruijn64tab", laid_math_bits_deBruijn64tab), ("ulp/trig.turns", laid_ulp_trig_turns)] }
def TrigEnclosesSaid : Prop := trigEnclosesRow.holds Tryz.pinned (OpenSpec.ofChange trigEnclosesSpec)

/-- ITS FALSE NEIGHBOUR: 'it returns false'. Refute it at one input. -/
def trigEnclosesWrong : ChangeSpec := { name := "trigEncloses", fn := fun _ => fun
  | [d1, d2, d3] => { results := [.lit (.bool false)], args := [d1, d2, d3] }
  | _ => none }
def TrigEnclosesWrongFalsely : Prop := trigEnclosesRow.holds Tryz.pinned (OpenSpec.ofChange trigEnclosesWrong)

/-- 'ulplaw17.TrigCircle': WHATEVER THE INPUT: true; the input reads as it did. -/
def trigCircleSpec : ChangeSpec := { name := "trigCircle", fn := fun _ => fun
  | [d1, d2, d3] => { results := [.lit (.bool true)], args := [d1, d2, d3] }
  | _ => none }
def trigCircleRow : OpenClaim := { program := "ytenkjloaghmjfaagreatdoor", sum := "7f27523f369747b6a2435183fd0525366c0678dd7903ce7a1db519019e046f3b", func := "ulp/ulplaw17.TrigCircle", spec := "trigCircle", inPlace := ["math/bits.Add64", "math/bits.Sub64"], unfollowed := true, recurses := true, named := ["math/bits.deBruijn64tab", "ulp/trig.turns", "math/bits.divideError", "math/bits.overflowError"], apart := false, laid := [("math/bits.deBruijn64tab", laid_math_bits_deBruijn64tab), ("ulp/trig.turns", laid_ulp_trig_turns)] }
def TrigCircleSaid : Prop := trigCircleRow.holds Tryz.pinned (OpenSpec.ofChange trigCircleSpec)

/-- ITS FALSE NEIGHBOUR: 'it returns false'. Refute it at one input. -/
def trigCircleWrong : ChangeSpec := { name := "trigCircle", fn := fun _ => fun
  | [d1, d2, d3] => { results := [.lit (.bool false)], args := [d1, d2, d3] }
  | _ => none }
def TrigCircleWrongFalsely : Prop := trigCircleRow.holds Tryz.pinned (OpenSpec.ofChange trigCircleWrong)

/-- 'ulplaw17.TrigTwice': WHATEVER THE INPUT: true; the input reads as it did. -/
def trigTwiceSpec : ChangeSpec := { name := "trigTwice", fn := fun _ => fun
  | [d1, d2] => { results := [.lit (.bool true)], args := [d1, d2] }
  | _ => none }
def trigTwiceRow : OpenClaim := { program := "ytenkjloaghmjfaagreatdoor", sum := "7f27523f369747b6a2435183fd0525366c0678dd7903ce7a1db519019e046f3b", func := "ulp/ulplaw17.TrigTwice", spec := "trigTwice", inPlace := ["math/bits.Add64", "math/bits.Sub64"], unfollowed := true, recurses := true, named := ["math/bits.deBruijn64tab", "ulp/trig.turns", "math/bits.divideError", "math/bits.overflowError"], apart := false, laid := [("math/bits.deBruijn64tab", laid_math_bits_deBruijn64tab), ("ulp/trig.turns", laid_ulp_trig_turns)] }
def TrigTwiceSaid : Prop := trigTwiceRow.holds Tryz.pinned (OpenSpec.ofChange trigTwiceSpec)

/-- ITS FALSE NEIGHBOUR: 'it returns false'. Refute it at one input. -/
def trigTwiceWrong : ChangeSpec := { name := "trigTwice", fn := fun _ => fun
  | [d1, d2] => { results := [.lit (.bool false)], args := [d1, d2] }
  | _ => none }
def TrigTwiceWrongFalsely : Prop := trigTwiceRow.holds Tryz.pinned (OpenSpec.ofChange trigTwiceWrong)

/-- 'ulplaw17.TrigBounds': WHATEVER THE INPUT: true; the input reads as it did. -/
def trigBoundsSpec : ChangeSpec := { name := "trigBounds", fn := fun _ => fun
  | [d1, d2] => { results := [.lit (.bool true)], args := [d1, d2] }
  | _ => none }
def trigBoundsRow : OpenClaim := { program := "ytenkjloaghmjfaagreatdoor", sum := "7f27523f369747b6a2435183fd0525366c0678dd7903ce7a1db519019e046f3b", func := "ulp/ulplaw17.TrigBounds", spec := "trigBounds", inPlace := ["math/bits.Add64", "math/bits.Sub64"], unfollowed := true, recurses := true, named := ["math/bits.deBruijn64tab", "ulp/trig.turns", "math/bits.divideError", "math/bits.overflowError"], apart := false, laid := [("math/bits.deBruijn64tab", laid_math_bits_deBruijn64tab), ("ulp/trig.turns", laid_ulp_trig_turns)] }
def TrigBoundsSaid : Prop := trigBoundsRow.holds Tryz.pinned (OpenSpec.ofChange trigBoundsSpec)

/-- ITS FALSE NEIGHBOUR: 'it returns false'. Refute it at one input. -/
def trigBoundsWrong : ChangeSpec := { name := "trigBounds", fn := fun _ => fun
  | [d1, d2] => { results := [.lit (.bool false)], args := [d1, d2] }
  | _ => none }
def TrigBoundsWrongFalsely : Prop := trigBoundsRow.holds Tryz.pinned (OpenSpec.ofChange trigBoundsWrong)

/-- 'ulplaw17.TrigMirror': WHATEVER THE INPUT: true; the input reads as it did. -/
def trigMirrorSpec : ChangeSpec := { name := "trigMirror", fn := fun _ => fun
  | [d1, d2, d3] => { results := [.lit (.bool true)], args := [d1, d2, d3] }
  | _ => none }
def trigMirrorRow : OpenClaim := { program := "ytenkjloaghmjfaagreatdoor", sum := "7f27523f369747b6a2435183fd0525366c0678dd7903ce7a1db519019e046f3b", func := "ulp/ulplaw17.TrigMirror", spec := "trigMirror", inPlace := ["math/bits.Add64", "math/bits.Sub64"], unfollowed := true, recurses := true, named := ["math/bits.deBruijn64tab", "ulp/trig.turns", "math/bits.divideError", "math/bits.overflowError"], apart := false, laid := [("math/bits.deBruijn64tab", laid_math_bits_deBruijn64tab), ("ulp/trig.turns", laid_ulp_trig_turns)] }
def TrigMirrorSaid : Prop := trigMirrorRow.holds Tryz.pinned (OpenSpec.ofChange trigMirrorSpec)

/-- ITS FALSE NEIGHBOUR: 'it returns false'. Refute it at one input. -/
def trigMirrorWrong : ChangeSpec := { name := "trigMirror", fn := fun _ => fun
  | [d1, d2, d3] => { results := [.lit (.bool false)], args := [d1, d2, d3] }
  | _ => none }
def TrigMirrorWrongFalsely : Prop := trigMirrorRow.holds Tryz.pinned (OpenSpec.ofChange trigMirrorWrong)

/-- 'ulplaw17.TrigBoth': WHATEVER THE INPUT: true; the input reads as it did. -/
def trigBothSpec : ChangeSpec := { name := "trigBoth", fn := fun _ => fun
  | [d1, d2] => { results := [.lit (.bool true)], args := [d1, d2] }
  | _ => none }
def trigBothRow : OpenClaim := { program := "ytenkjloaghmjfaagreatdoor", sum := "7f27523f369747b6a2435183fd0525366c0678dd7903ce7a1db519019e046f3b", func := "ulp/ulplaw17.TrigBoth", spec := "trigBoth", inPlace := ["math/bits.Add64", "math/bits.Sub64"], unfollowed := true, recurses := true, named := ["ulp/trig.turns", "math/bits.deBruijn64tab", "math/bits.divideError", "math/bits.overflowError"], apart := false, laid := [("math/bits.deBruijn64tab", laid_math_bits_deBruijn64tab), ("ulp/trig.turns", laid_ulp_trig_turns)] }
def TrigBothSaid : Prop := trigBothRow.holds Tryz.pinned (OpenSpec.ofChange trigBothSpec)

/-- ITS FALSE NEIGHBOUR: 'it returns false'. Refute it at one input. -/
def trigBothWrong : ChangeSpec := { name := "trigBoth", fn := fun _ => fun
  | [d1, d2] => { results := [.lit (.bool false)], args := [d1, d2] }
  | _ => none }
def TrigBothWrongFalsely : Prop := trigBothRow.holds Tryz.pinned (OpenSpec.ofChange trigBothWrong)

/-- 'ulplaw17.TrigOwn': WHATEVER THE INPUT: true; the input reads as it did. -/
def trigOwnSpec : ChangeSpec := { name := "trigOwn", fn := fun _ => fun
  | [d1, d2] => { results := [.lit (.bool true)], args := [d1, d2] }
  | _ => none }
def trigOwnRow : OpenClaim := { program := "ytenkjloaghmjfaagreatdoor", sum := "7f27523f369747b6a2435183fd0525366c0678dd7903ce7a1db519019e046f3b", func := "ulp/ulplaw17.TrigOwn", spec := "trigOwn", inPlace := ["math/bits.Add64", "math/bits.Sub64"], unfollowed := true, recurses := true, named := ["math/bits.deBruijn64tab", "ulp/trig.turns", "math/bits.divideError", "math/bits.overflowError"], apart := false, laid := [("math/bits.deBruijn64tab", laid_math_bits_deBruijn64tab), ("ulp/trig.turns", laid_ulp_trig_turns)] }
def TrigOwnSaid : Prop := trigOwnRow.holds Tryz.pinned (OpenSpec.ofChange trigOwnSpec)

/-- ITS FALSE NEIGHBOUR: 'it returns false'. Refute it at one input. -/
def trigOwnWrong : ChangeSpec := { name := "trigOwn", fn := fun _ => fun
  | [d1, d2] => { results := [.lit (.bool false)], args := [d1, d2] }
  | _ => none }
def TrigOwnWrongFalsely : Prop := trigOwnRow.holds Tryz.pinned (OpenSpec.ofChange trigOwnWrong)

/- THE SECOND FORM. 'bulk': how many values and letters a reading holds, each counted each time it is reached (what is shared counts as often as it is met; a slice's spare places count too). A statement '..UptoSaid' is the law's where the arguments, and the package variables that the reading takes, are together of bulk at most 1048576: NARROWER than '..Said'. Prove '..Said' where nothing that the law and all that it calls make is longer than what came in: it says more and counts as full. Else prove '..UptoSaid'. A law counts once. -/
mutual
def uptoBulk {H : Type} : DataW H → Nat
  | .lit (.string bytes) => bytes.length + 1
  | .lit _ => 1
  | .nil => 1
  | .ptr d => uptoBulk d + 1
  | .slice elems spare => uptoBulkAll elems + uptoBulkAll spare + 1
  | .agg parts => uptoBulkAll parts + 1
  | .iface _ d => uptoBulk d + 1
  | .map entries => uptoBulkEntries entries + 1
  | .held _ => 1
def uptoBulkAll {H : Type} : List (DataW H) → Nat
  | [] => 0
  | d :: r => uptoBulk d + uptoBulkAll r
def uptoBulkEntries {H : Type} : List (Lit × DataW H) → Nat
  | [] => 0
  | x :: r => uptoBulkEntry x + uptoBulkEntries r
def uptoBulkEntry {H : Type} : Lit × DataW H → Nat
  | (.string bytes, d) => bytes.length + uptoBulk d + 1
  | (_, d) => uptoBulk d + 1
 end
def uptoSmall : (H : Type) → List (DataW H) → Bool := fun _ ds => decide (uptoBulkAll ds ≤ 1048576)
def OpenSpec.upto (s : _root_.Go.ChangeSpec) : _root_.Go.OpenSpec := { _root_.Go.OpenSpec.ofChange s with cond := some uptoSmall }

/-- 'ulplaw17.TrigEncloses', WHERE WHAT IT READS IS OF BULK AT MOST 1048576: true; the input reads as it did. -/
def trigEnclosesUptoRow : OpenClaim := { program := "ytenkjloaghmjfaagreatdoor", sum := "7f27523f369747b6a2435183fd0525366c0678dd7903ce7a1db519019e046f3b", func := "ulp/ulplaw17.TrigEncloses", spec := "trigEncloses", inPlace := ["math/bits.Add64", "math/bits.Sub64"], unfollowed := true, recurses := true, named := ["math/bits.deBruijn64tab", "ulp/trig.turns", "math/bits.divideError", "math/bits.overflowError"], apart := false, laid := [("math/bits.deBruijn64tab", laid_math_bits_deBruijn64tab), ("ulp/trig.turns", laid_ulp_trig_turns)], narrowed := true }
def TrigEnclosesUptoSaid : Prop := trigEnclosesUptoRow.holds Tryz.pinned (OpenSpec.upto trigEnclosesSpec)

/-- 'ulplaw17.TrigCircle', WHERE WHAT IT READS IS OF BULK AT MOST 1048576: true; the input reads as it did. -/
def trigCircleUptoRow : OpenClaim := { program := "ytenkjloaghmjfaagreatdoor", sum := "7f27523f369747b6a2435183fd0525366c0678dd7903ce7a1db519019e046f3b", func := "ulp/ulplaw17.TrigCircle", spec := "trigCircle", inPlace := ["math/bits.Add64", "math/bits.Sub64"], unfollowed := true, recurses := true, named := ["math/bits.deBruijn64tab", "ulp/trig.turns", "math/bits.divideError", "math/bits.overflowError"], apart := false, laid := [("math/bits.deBruijn64tab", laid_math_bits_deBruijn64tab), ("ulp/trig.turns", laid_ulp_trig_turns)], narrowed := true }
def TrigCircleUptoSaid : Prop := trigCircleUptoRow.holds Tryz.pinned (OpenSpec.upto trigCircleSpec)

/-- 'ulplaw17.TrigTwice', WHERE WHAT IT READS IS OF BULK AT MOST 1048576: true; the input reads as it did. -/
def trigTwiceUptoRow : OpenClaim := { program := "ytenkjloaghmjfaagreatdoor", sum := "7f27523f369747b6a2435183fd0525366c0678dd7903ce7a1db519019e046f3b", func := "ulp/ulplaw17.TrigTwice", spec := "trigTwice", inPlace := ["math/bits.Add64", "math/bits.Sub64"], unfollowed := true, recurses := true, named := ["math/bits.deBruijn64tab", "ulp/trig.turns", "math/bits.divideError", "math/bits.overflowError"], apart := false, laid := [("math/bits.deBruijn64tab", laid_math_bits_deBruijn64tab), ("ulp/trig.turns", laid_ulp_trig_turns)], narrowed := true }
def TrigTwiceUptoSaid : Prop := trigTwiceUptoRow.holds Tryz.pinned (OpenSpec.upto trigTwiceSpec)

/-- 'ulplaw17.TrigBounds', WHERE WHAT IT READS IS OF BULK AT MOST 1048576: true; the input reads as it did. -/
def trigBoundsUptoRow : OpenClaim := { program := "ytenkjloaghmjfaagreatdoor", sum := "7f27523f369747b6a2435183fd0525366c0678dd7903ce7a1db519019e046f3b", func := "ulp/ulplaw17.TrigBounds", spec := "trigBounds", inPlace := ["math/bits.Add64", "math/bits.Sub64"], unfollowed := true, recurses := true, named := ["math/bits.deBruijn64tab", "ulp/trig.turns", "math/bits.divideError", "math/bits.overflowError"], apart := false, laid := [("math/bits.deBruijn64tab", laid_math_bits_deBruijn64tab), ("ulp/trig.turns", laid_ulp_trig_turns)], narrowed := true }
def TrigBoundsUptoSaid : Prop := trigBoundsUptoRow.holds Tryz.pinned (OpenSpec.upto trigBoundsSpec)

/-- 'ulplaw17.TrigMirror', WHERE WHAT IT READS IS OF BULK AT MOST 1048576: true; the input reads as it did. -/
def trigMirrorUptoRow : OpenClaim := { program := "ytenkjloaghmjfaagreatdoor", sum := "7f27523f369747b6a2435183fd0525366c0678dd7903ce7a1db519019e046f3b", func := "ulp/ulplaw17.TrigMirror", spec := "trigMirror", inPlace := ["math/bits.Add64", "math/bits.Sub64"], unfollowed := true, recurses := true, named := ["math/bits.deBruijn64tab", "ulp/trig.turns", "math/bits.divideError", "math/bits.overflowError"], apart := false, laid := [("math/bits.deBruijn64tab", laid_math_bits_deBruijn64tab), ("ulp/trig.turns", laid_ulp_trig_turns)], narrowed := true }
def TrigMirrorUptoSaid : Prop := trigMirrorUptoRow.holds Tryz.pinned (OpenSpec.upto trigMirrorSpec)

/-- 'ulplaw17.TrigBoth', WHERE WHAT IT READS IS OF BULK AT MOST 1048576: true; the input reads as it did. -/
def trigBothUptoRow : OpenClaim := { program := "ytenkjloaghmjfaagreatdoor", sum := "7f27523f369747b6a2435183fd0525366c0678dd7903ce7a1db519019e046f3b", func := "ulp/ulplaw17.TrigBoth", spec := "trigBoth", inPlace := ["math/bits.Add64", "math/bits.Sub64"], unfollowed := true, recurses := true, named := ["ulp/trig.turns", "math/bits.deBruijn64tab", "math/bits.divideError", "math/bits.overflowError"], apart := false, laid := [("math/bits.deBruijn64tab", laid_math_bits_deBruijn64tab), ("ulp/trig.turns", laid_ulp_trig_turns)], narrowed := true }
def TrigBothUptoSaid : Prop := trigBothUptoRow.holds Tryz.pinned (OpenSpec.upto trigBothSpec)

/-- 'ulplaw17.TrigOwn', WHERE WHAT IT READS IS OF BULK AT MOST 1048576: true; the input reads as it did. -/
def trigOwnUptoRow : OpenClaim := { program := "ytenkjloaghmjfaagreatdoor", sum := "7f27523f369747b6a2435183fd0525366c0678dd7903ce7a1db519019e046f3b", func := "ulp/ulplaw17.TrigOwn", spec := "trigOwn", inPlace := ["math/bits.Add64", "math/bits.Sub64"], unfollowed := true, recurses := true, named := ["math/bits.deBruijn64tab", "ulp/trig.turns", "math/bits.divideError", "math/bits.overflowError"], apart := false, laid := [("math/bits.deBruijn64tab", laid_math_bits_deBruijn64tab), ("ulp/trig.turns", laid_ulp_trig_turns)], narrowed := true }
def TrigOwnUptoSaid : Prop := trigOwnUptoRow.holds Tryz.pinned (OpenSpec.upto trigOwnSpec)

end Rows
end Go.Proofs.YtenkjloaghmjfaaGreatDoor
