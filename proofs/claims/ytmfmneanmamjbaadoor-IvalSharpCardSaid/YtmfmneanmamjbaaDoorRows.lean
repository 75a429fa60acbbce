/-
  NARROWER THAN 'FOR EVERY INPUT', by the rows' own cells (each row's printed sentence says how): IvalOwn: laid · IvalForms: laid · IvalNarrow: laid · IvalTurns: laid · IvalTells: laid · IvalSharp: laid · IvalEncloses: laid · IvalInclusion: laid · IvalBack: laid.
  DERIVED. THE GIVEN ROWS OF THIS SEAT. 9 by the template 'for every input the law returns true; each argument reads behind the call as it read before'; 0 by the template 'total and deterministic' (their statements: YtmfmneanmamjbaaDoorTotals.lean).
  GIVEN WITH THE SEED: the statements are not yours to turn. If you find one false, say at which input.
  Laid BY PROGRAM, IN A SANDBOX (cutbox-rows.mjs): the forced cells as the released guide's own fill.sh prints them over the translation 7e4fefe11596b9d3… (all of the seat's roots in one cut). By AI agents, Wed Nov 11 2026. No macro, syntax, notation, axiom, sorry.
-/
import Derived.Test.YtmfmneanmamjbaaDoorChecked
import GoSem.Claim
import GoSem.ClaimJoined
import GoSem.ClaimMapViews
import Derived.JoinedTies
import Derived.KernelRfl
namespace Go.Proofs.YtmfmneanmamjbaaDoor
/- THE CELL 'sum', in the pinned program and in every row, IS THE sha256 OF THE DUMP (.gsa) THAT YtmfmneanmamjbaaDoorProg.lean LOADS. Nothing in Lean hashes anything: it is a label: what it is worth is what the hold of that sum in a sandbox is worth. -/
noncomputable def Tryd.pinned : Pinned := { name := "ytmfmneanmamjbaadoor", sum := "7e4fefe11596b9d3836f141698a1fbe6a278c9a298c0d885b7094d4269555875", checked := Tryd.checked }
namespace Rows
def none {H : Type} : Left H := { results := [], args := [] }

/- WHAT THE LISTED PACKAGE-LEVEL VARIABLES READ AS WHEN THE CALL BEGINS. Each datum BY PROGRAM (the guide's laid-datum.mjs) off the statement by which the dump's own 'gosem.cut.vars' lays the variable. In a bare row this is a premise. The card (YtmfmneanmamjbaaDoorCards.lean) ties it to the program's text. -/
def laid_math_bits_deBruijn64tab {H : Type} : DataW H := .agg [.lit (.int .u8 0), .lit (.int .u8 1), .lit (.int .u8 56), .lit (.int .u8 2), .lit (.int .u8 57), .lit (.int .u8 49), .lit (.int .u8 28), .lit (.int .u8 3), .lit (.int .u8 61), .lit (.int .u8 58), .lit (.int .u8 42), .lit (.int .u8 50), .lit (.int .u8 38), .lit (.int .u8 29), .lit (.int .u8 17), .lit (.int .u8 4), .lit (.int .u8 62), .lit (.int .u8 47), .lit (.int .u8 59), .lit (.int .u8 36), .lit (.int .u8 45), .lit (.int .u8 43), .lit (.int .u8 51), .lit (.int .u8 22), .lit (.int .u8 53), .lit (.int .u8 39), .lit (.int .u8 33), .lit (.int .u8 30), .lit (.int .u8 24), .lit (.int .u8 18), .lit (.int .u8 12), .lit (.int .u8 5), .lit (.int .u8 63), .lit (.int .u8 55), .lit (.int .u8 48), .lit (.int .u8 27), .lit (.int .u8 60), .lit (.int .u8 41), .lit (.int .u8 37), .lit (.int .u8 16), .lit (.int .u8 46), .lit (.int .u8 35), .lit (.int .u8 44), .lit (.int .u8 21), .lit (.int .u8 52), .lit (.int .u8 32), .lit (.int .u8 23), .lit (.int .u8 11), .lit (.int .u8 54), .lit (.int .u8 26), .lit (.int .u8 40), .lit (.int .u8 15), .lit (.int .u8 34), .lit (.int .u8 20), .lit (.int .u8 31), .lit (.int .u8 10), .lit (.int .u8 25), .lit (.int .u8 14), .lit (.int .u8 19), .lit (.int .u8 9), .lit (.int .u8 13), .lit (.int .u8 8), .lit (.int .u8 7), .lit (.int .u8 6)]

/-- 'ulplaw06.IvalOwn': WHATEVER THE INPUT: true; the input reads as it did. -/
def ivalOwnSpec : ChangeSpec := { name := "ivalOwn", fn := fun _ => fun
  | [d1, d2, d3] => { results := [.lit (.bool true)], args := [d1, d2, d3] }
  | _ => none }
def ivalOwnRow : OpenClaim := { program := "ytmfmneanmamjbaadoor", sum := "7e4fefe11596b9d3836f141698a1fbe6a278c9a298c0d885b7094d4269555875", func := "ulp/ulplaw06.IvalOwn", spec := "ivalOwn", inPlace := ["math/bits.Add64", "math/bits.Sub64"], unfollowed := true, recurses := true, named := ["math/bits.deBruijn64tab", "math/bits.divideError", "math/bits.overflowError"], apart := false, laid := [("math/bits.deBruijn64tab", laid_math_bits_deBruijn64tab)] }
def IvalOwnSaid : Prop := ivalOwnRow.holds Tryd.pinned (OpenSpec.ofChange ivalOwnSpec)

/-- ITS FALSE NEIGHBOUR: 'it returns false'. Refute it at one input. -/
def ivalOwnWrong : ChangeSpec := { name := "ivalOwn", fn := fun _ => fun
  | [d1, d2, d3] => { results := [.lit (.bool false)], args := [d1, d2, d3] }
  | _ => none }
def IvalOwnWrongFalsely : Prop := ivalOwnRow.holds Tryd.pinned (OpenSpec.ofChange ivalOwnWrong)

/-- 'ulplaw06.IvalForms': WHATEVER THE INPUT: true; the input reads as it did. -/
def ivalFormsSpec : ChangeSpec := { name := "ivalForms", fn := fun _ => fun
  | [d1, d2] => { results := [.lit (.bool true)], args := [d1, d2] }
  | _ => none }
def ivalFormsRow : OpenClaim := { program := "ytmfmneanmamjbaadoor", sum := "7e4fefe11596b9d3836f141698a1fbe6a278c9a298c0d885b7094d4269555875", func := "ulp/ulplaw06.IvalForms", spec := "ivalForms", inPlace := ["math/bits.Add64", "math/bits.Sub64"], unfollowed := true, recurses := true, named := ["math/bits.deBruijn64tab", "math/bits.divideError", "math/bits.overflowError"], apart := false, laid := [("math/bits.deBruijn64tab", laid_math_bits_deBruijn64tab)] }
def IvalFormsSaid : Prop := ivalFormsRow.holds Tryd.pinned (OpenSpec.ofChange ivalFormsSpec)

/-- ITS FALSE NEIGHBOUR: 'it returns false'. Refute it at one input. -/
def ivalFormsWrong : ChangeSpec := { name := "ivalForms", fn := fun _ => fun
  | [d1, d2] => { results := [.lit (.bool false)], args := [d1, d2] }
  | _ => none }
def IvalFormsWrongFalsely : Prop := ivalFormsRow.holds Tryd.pinned (OpenSpec.ofChange ivalFormsWrong)

/-- 'ulplaw06.IvalNarrow': WHATEVER THE INPUT: true; the input reads as it did. -/
def ivalNarrowSpec : ChangeSpec := { name := "ivalNarrow", fn := fun _ => fun
  | [d1, d2, d3] => { results := [.lit (.bool true)], args := [d1, d2, d3] }
  | _ => none }
def ivalNarrowRow : OpenClaim := { program := "ytmfmneanmamjbaadoor", sum := "7e4fefe11596b9d3836f141698a1fbe6a278c9a298c0d885b7094d4269555875", func := "ulp/ulplaw06.IvalNarrow", spec := "ivalNarrow", inPlace := ["math/bits.Add64", "math/bits.Sub64"], unfollowed := true, recurses := true, named := ["math/bits.deBruijn64tab", "math/bits.divideError", "math/bits.overflowError"], apart := false, laid := [("math/bits.deBruijn64tab", laid_math_bits_deBruijn64tab)] }
def IvalNarrowSaid : Prop := ivalNarrowRow.holds Tryd.pinned (OpenSpec.ofChange ivalNarrowSpec)

/-- ITS FALSE NEIGHBOUR: 'it returns false'. Refute it at one input. -/
def ivalNarrowWrong : ChangeSpec := { name := "ivalNarrow", fn := fun _ => fun
  | [d1, d2, d3] => { results := [.lit (.bool false)], args := [d1, d2, d3] }
  | _ => none }
def IvalNarrowWrongFalsely : Prop := ivalNarrowRow.holds Tryd.pinned (OpenSpec.ofChange ivalNarrowWrong)

/-- 'ulplaw06.IvalTurns': WHATEVER THE INPUT: true; the input reads as it did. -/
def ivalTurnsSpec : ChangeSpec := { name := "ivalTurns", fn := fun _ => fun
  | [d1, d2, d3] => { results := [.lit (.bool true)], args := [d1, d2, d3] }
  | _ => none }
def ivalTurnsRow : OpenClaim := { program := "ytmfmneanmamjbaadoor", sum := "7e4fefe11596b9d3836f141698a1fbe6a278c9a298c0d885b7094d4269555875", func := "ulp/ulplaw06.IvalTurns", spec := "ivalTurns", inPlace := ["math/bits.Add64", "math/bits.Sub64"], unfollowed := true, recurses := true, named := ["math/bits.deBruijn64tab", "math/bits.divideError", "math/bits.overflowError"], apart := false, laid := [("math/bits.deBruijn64tab", laid_math_bits_deBruijn64tab)] }
def IvalTurnsSaid : Prop := ivalTurnsRow.holds Tryd.pinned (OpenSpec.ofChange ivalTurnsSpec)

/-- ITS FALSE NEIGHBOUR: 'it returns false'. Refute it at one input. -/
def ivalTurnsWrong : ChangeSpec := { name := "ivalTurns", fn := fun _ => fun
  | [d1, d2, d3] => { results := [.lit (.bool false)], args := [d1, d2, d3] }
  | _ => none }
def IvalTurnsWrongFalsely : Prop := ivalTurnsRow.holds Tryd.pinned (OpenSpec.ofChange ivalTurnsWrong)

/-- 'ulplaw06.IvalTells': WHATEVER THE INPUT: true; the input reads as it did. -/
def ivalTellsSpec : ChangeSpec := { name := "ivalTells", fn := fun _ => fun
  | [d1, d2, d3, d4] => { results := [.lit (.bool true)], args := [d1, d2, d3, d4] }
  | _ => none }
def ivalTellsRow : OpenClaim := { program := "ytmfmneanmamjbaadoor", sum := "7e4fefe11596b9d3836f141698a1fbe6a278c9a298c0d885b7094d4269555875", func := "ulp/ulplaw06.IvalTells", spec := "ivalTells", inPlace := ["math/bits.Add64", "math/bits.Sub64"], unfollowed := true, recurses := true, named := ["math/bits.deBruijn64tab", "math/bits.divideError", "math/bits.overflowError"], apart := false, laid := [("math/bits.deBruijn64tab", laid_math_bits_deBruijn64tab)] }
def IvalTellsSaid : Prop := ivalTellsRow.holds Tryd.pinned (OpenSpec.ofChange ivalTellsSpec)

/-- ITS FALSE NEIGHBOUR: 'it returns false'. Refute it at one input. -/
def ivalTellsWrong : ChangeSpec := { name := "ivalTells", fn := fun _ => fun
  | [d1, d2, d3, d4] => { results := [.lit (.bool false)], args := [d1, d2, d3, d4] }
  | _ => none }
def IvalTellsWrongFalsely : Prop := ivalTellsRow.holds Tryd.pinned (OpenSpec.ofChange ivalTellsWrong)

/-- 'ulplaw06.IvalSharp': WHATEVER THE INPUT: true; the input reads as it did. -/
def ivalSharpSpec : ChangeSpec := { name := "ivalSharp", fn := fun _ => fun
  | [d1, d2, d3] => { results := [.lit (.bool true)], args := [d1, d2, d3] }
  | _ => none }
def ivalSharpRow : OpenClaim := { program := "ytmfmneanmamjbaadoor", sum := "7e4fefe11596b9d3836f141698a1fbe6a278c9a298c0d885b7094d4269555875", func := "ulp/ulplaw06.IvalSharp", spec := "ivalSharp", inPlace := ["math/bits.Add64", "math/bits.Sub64"], unfollowed := true, recurses := true, named := ["math/bits.deBruijn64tab", "math/bits.divideError", "math/bits.overflowError"], apart := false, laid := [("math/bits.deBruijn64tab", laid_math_bits_deBruijn64tab)] }
def IvalSharpSaid : Prop := ivalSharpRow.holds Tryd.pinned (OpenSpec.ofChange ivalSharpSpec)

/-- ITS FALSE NEIGHBOUR: 'it returns false'. Refute it at one input. -/
def ivalSharpWrong : ChangeSpec := { name := "ivalSharp", fn := fun _ => fun
  | [d1, d2, d3] => { results := [.lit (.bool false)], args := [d1, d2, d3] }
  | _ => none }
def IvalSharpWrongFalsely : Prop := ivalSharpRow.holds Tryd.pinned (OpenSpec.ofChange ivalSharpWrong)

/-- 'ulplaw06.IvalEncloses': WHATEVER THE INPUT: true; the input reads as it did. -/
def ivalEnclosesSpec : ChangeSpec := { name := "ivalEncloses", fn := fun _ => fun
  | [d1, d2, d3, d4, d5] => { results := [.lit (.bool true)], args := [d1, d2, d3, d4, d5] }
  | _ => none }
def ivalEnclosesRow : OpenClaim := { program := "ytmfmneanmamjbaadoor", sum := "7e4fefe11596b9d3836f141698a1fbe6a278c9a298c0d885b7094d4269555875", func := "ulp/ulplaw06.IvalEncloses", spec := "ivalEncloses", inPlace := ["math/bits.Add64", "math/bits.Sub64"], unfollowed := true, recurses := true, named := ["math/bits.deBruijn64tab", "math/bits.divideError", "math/bits.overflowError"], apart := false, laid := [("math/bits.deBruijn64tab", laid_math_bits_deBruijn64tab)] }
def IvalEnclosesSaid : Prop := ivalEnclosesRow.holds Tryd.pinned (OpenSpec.ofChange ivalEnclosesSpec)

/-- ITS FALSE NEIGHBOUR: 'it returns false'. Refute it at one input. -/
def ivalEnclosesWrong : ChangeSpec := { name := "ivalEncloses", fn := fun _ => fun
  | [d1, d2, d3, d4, d5] => { results := [.lit (.bool false)], args := [d1, d2, d3, d4, d5] }
  | _ => none }
def IvalEnclosesWrongFalsely : Prop := ivalEnclosesRow.holds Tryd.pinned (OpenSpec.ofChange ivalEnclosesWrong)

/-- 'ulplaw06.IvalInclusion': WHATEVER THE INPUT: true; the input reads as it did. -/
def ivalInclusionSpec : ChangeSpec := { name := "ivalInclusion", fn := fun _ => fun
  | [d1, d2, d3, d4, d5, d6] => { results := [.lit (.bool true)], args := [d1, d2, d3, d4, d5, d6] }
  | _ => none }
def ivalInclusionRow : OpenClaim := { program := "ytmfmneanmamjbaadoor", sum := "7e4fefe11596b9d3836f141698a1fbe6a278c9a298c0d885b7094d4269555875", func := "ulp/ulplaw06.IvalInclusion", spec := "ivalInclusion", inPlace := ["math/bits.Add64", "math/bits.Sub64"], unfollowed := true, recurses := true, named := ["math/bits.deBruijn64tab", "math/bits.divideError", "math/bits.overflowError"], apart := false, laid := [("math/bits.deBruijn64tab", laid_math_bits_deBruijn64tab)] }
def IvalInclusionSaid : Prop := ivalInclusionRow.holds Tryd.pinned (OpenSpec.ofChange ivalInclusionSpec)

/-- ITS FALSE NEIGHBOUR: 'it returns false'. Refute it at one input. -/
def ivalInclusionWrong : ChangeSpec := { name := "ivalInclusion", fn := fun _ => fun
  | [d1, d2, d3, d4, d5, d6] => { results := [.lit (.bool false)], args := [d1, d2, d3, d4, d5, d6] }
  | _ => none }
def IvalInclusionWrongFalsely : Prop := ivalInclusionRow.holds Tryd.pinned (OpenSpec.ofChange ivalInclusionWrong)

/-- 'ulplaw06.IvalBack': WHATEVER THE INPUT: true; the input reads as it did. -/
def ivalBackSpec : ChangeSpec := { name := "ivalBack", fn := fun _ => fun
  | [d1, d2, d3] => { results := [.lit (.bool true)], args := [d1, d2, d3] }
  | _ => none }
def ivalBackRow : OpenClaim := { program := "ytmfmneanmamjbaadoor", sum := "7e4fefe11596b9d3836f141698a1fbe6a278c9a298c0d885b7094d4269555875", func := "ulp/ulplaw06.IvalBack", spec := "ivalBack", inPlace := ["math/bits.Add64", "math/bits.Sub64"], unfollowed := true, recurses := true, named := ["math/bits.deBruijn64tab", "math/bits.divideError", "math/bits.overflowError"], apart := false, laid := [("math/bits.deBruijn64tab", laid_math_bits_deBruijn64tab)] }
def IvalBackSaid : Prop := ivalBackRow.holds Tryd.pinned (OpenSpec.ofChange ivalBackSpec)

/-- ITS FALSE NEIGHBOUR: 'it returns false'. Refute it at one input. -/
def ivalBackWrong : ChangeSpec := { name := "ivalBack", fn := fun _ => fun
  | [d1, d2, d3] => { results := [.lit (.bool false)], args := [d1, d2, d3] }
  | _ => none }
def IvalBackWrongFalsely : Prop := ivalBackRow.holds Tryd.pinned (OpenSpec.ofChange ivalBackWrong)

/- THE SECOND FORM. 'bulk': how many values and letters a reading holds, each counted each time it is reached (what is shared counts as often as it is met; a slice's spare places count too). A statement '..UptoSaid' is the law's where the arguments, and the package variables that the reading takes, are together of bulk at most 1048576: NARROWER than '..Said'. Prove '..Said' where nothing that the law and all that it calls make is longer than what came in: it says more and counts as full. Else prove '..UptoSaid'. A law counts once. -/
mutual
def uptoBulk {H : Type} : DataW H → Nat
  | .lit (.string bytes) => bytes.length + 1
  | .lit _ => 1
  | .nil => 1
  | .ptr d => uptoBulk d + 1
  | .slice elems spare => uptoBulkAll elems + uptoBulkAll spare + 1
  | .agg parts => uptoBulkAll parts + 1
  | .iface _ d => uptoBulk d + 1
  | .map entries => uptoBulkEntries entries + 1
  | .held _ => 1
def uptoBulkAll {H : Type} : List (DataW H) → Nat
  | [] => 0
  | d :: r => uptoBulk d + uptoBulkAll r
def uptoBulkEntries {H : Type} : List (Lit × DataW H) → Nat
  | [] => 0
  | x :: r => uptoBulkEntry x + uptoBulkEntries r
def uptoBulkEntry {H : Type} : Lit × DataW H → Nat
  | (.string bytes, d) => bytes.length + uptoBulk d + 1
  | (_, d) => uptoBulk d + 1
 end
def uptoSmall : (H : Type) → List (DataW H) → Bool := fun _ ds => decide (uptoBulkAll ds ≤ 1048576)
def OpenSpec.upto (s : _root_.Go.ChangeSpec) : _root_.Go.OpenSpec := { _root_.Go.OpenSpec.ofChange s with cond := some uptoSmall }

/-- 'ulplaw06.IvalOwn', WHERE WHAT IT READS IS OF BULK AT MOST 1048576: true; the input reads as it did. -/
def ivalOwnUptoRow : OpenClaim := { program := "ytmfmneanmamjbaadoor", sum := "7e4fefe11596b9d3836f141698a1fbe6a278c9a298c0d885b7094d4269555875", func := "ulp/ulplaw06.IvalOwn", spec := "ivalOwn", inPlace := ["math/bits.Add64", "math/bits.Sub64"], unfollowed := true, recurses := true, named := ["math/bits.deBruijn64tab", "math/bits.divideError", "math/bits.overflowError"], apart := false, laid := [("math/bits.deBruijn64tab", laid_math_bits_deBruijn64tab)], narrowed := true }
def IvalOwnUptoSaid : Prop := ivalOwnUptoRow.holds Tryd.pinned (OpenSpec.upto ivalOwnSpec)

/-- 'ulplaw06.IvalForms', WHERE WHAT IT READS IS OF BULK AT MOST 1048576: true; the input reads as it did. -/
def ivalFormsUptoRow : OpenClaim := { program := "ytmfmneanmamjbaadoor", sum := "7e4fefe11596b9d3836f141698a1fbe6a278c9a298c0d885b7094d4269555875", func := "ulp/ulplaw06.IvalForms", spec := "ivalForms", inPlace := ["math/bits.Add64", "math/bits.Sub64"], unfollowed := true, recurses := true, named := ["math/bits.deBruijn64tab", "math/bits.divideError", "math/bits.overflowError"], apart := false, laid := [("math/bits.deBruijn64tab", laid_math_bits_deBruijn64tab)], narrowed := true }
def IvalFormsUptoSaid : Prop := ivalFormsUptoRow.holds Tryd.pinned (OpenSpec.upto ivalFormsSpec)

/-- 'ulplaw06.IvalNarrow', WHERE WHAT IT READS IS OF BULK AT MOST 1048576: true; the input reads as it did. -/
def ivalNarrowUptoRow : OpenClaim := { program := "ytmfmneanmamjbaadoor", sum := "7e4fefe11596b9d3836f141698a1fbe6a278c9a298c0d885b7094d4269555875", func := "ulp/ulplaw06.IvalNarrow", spec := "ivalNarrow", inPlace := ["math/bits.Add64", "math/bits.Sub64"], unfollowed := true, recurses := true, named := ["math/bits.deBruijn64tab", "math/bits.divideError", "math/bits.overflowError"], apart := false, laid := [("math/bits.deBruijn64tab", laid_math_bits_deBruijn64tab)], narrowed := true }
def IvalNarrowUptoSaid : Prop := ivalNarrowUptoRow.holds Tryd.pinned (OpenSpec.upto ivalNarrowSpec)

/-- 'ulplaw06.IvalTurns', WHERE WHAT IT READS IS OF BULK AT MOST 1048576: true; the input reads as it did. -/
def ivalTurnsUptoRow : OpenClaim := { program := "ytmfmneanmamjbaadoor", sum := "7e4fefe11596b9d3836f141698a1fbe6a278c9a298c0d885b7094d4269555875", func := "ulp/ulplaw06.IvalTurns", spec := "ivalTurns", inPlace := ["math/bits.Add64", "math/bits.Sub64"], unfollowed := true, recurses := true, named := ["math/bits.deBruijn64tab", "math/bits.divideError", "math/bits.overflowError"], apart := false, laid := [("math/bits.deBruijn64tab", laid_math_bits_deBruijn64tab)], narrowed := true }
def IvalTurnsUptoSaid : Prop := ivalTurnsUptoRow.holds Tryd.pinned (OpenSpec.upto ivalTurnsSpec)

/-- 'ulplaw06.IvalTells', WHERE WHAT IT READS IS OF BULK AT MOST 1048576: true; the input reads as it did. -/
def ivalTellsUptoRow : OpenClaim := { program := "ytmfmneanmamjbaadoor", sum := "7e4fefe11596b9d3836f141698a1fbe6a278c9a298c0d885b7094d4269555875", func := "ulp/ulplaw06.IvalTells", spec := "ivalTells", inPlace := ["math/bits.Add64", "math/bits.Sub64"], unfollowed := true, recurses := true, named := ["math/bits.deBruijn64tab", "math/bits.divideError", "math/bits.overflowError"], apart := false, laid := [("math/bits.deBruijn64tab", laid_math_bits_deBruijn64tab)], narrowed := true }
def IvalTellsUptoSaid : Prop := ivalTellsUptoRow.holds Tryd.pinned (OpenSpec.upto ivalTellsSpec)

/-- 'ulplaw06.IvalSharp', WHERE WHAT IT READS IS OF BULK AT MOST 1048576: true; the input reads as it did. -/
def ivalSharpUptoRow : OpenClaim := { program := "ytmfmneanmamjbaadoor", sum := "7e4fefe11596b9d3836f141698a1fbe6a278c9a298c0d885b7094d4269555875", func := "ulp/ulplaw06.IvalSharp", spec := "ivalSharp", inPlace := ["math/bits.Add64", "math/bits.Sub64"], unfollowed := true, recurses := true, named := ["math/bits.deBruijn64tab", "math/bits.divideError", "math/bits.overflowError"], apart := false, laid := [("math/bits.deBruijn64tab", laid_math_bits_deBruijn64tab)], narrowed := true }
def IvalSharpUptoSaid : Prop := ivalSharpUptoRow.holds Tryd.pinned (OpenSpec.upto ivalSharpSpec)

/-- 'ulplaw06.IvalEncloses', WHERE WHAT IT READS IS OF BULK AT MOST 1048576: true; the input reads as it did. -/
def ivalEnclosesUptoRow : OpenClaim := { program := "ytmfmneanmamjbaadoor", sum := "7e4fefe11596b9d3836f141698a1fbe6a278c9a298c0d885b7094d4269555875", func := "ulp/ulplaw06.IvalEncloses", spec := "ivalEncloses", inPlace := ["math/bits.Add64", "math/bits.Sub64"], unfollowed := true, recurses := true, named := ["math/bits.deBruijn64tab", "math/bits.divideError", "math/bits.overflowError"], apart := false, laid := [("math/bits.deBruijn64tab", laid_math_bits_deBruijn64tab)], narrowed := true }
def IvalEnclosesUptoSaid : Prop := ivalEnclosesUptoRow.holds Tryd.pinned (OpenSpec.upto ivalEnclosesSpec)

/-- 'ulplaw06.IvalInclusion', WHERE WHAT IT READS IS OF BULK AT MOST 1048576: true; the input reads as it did. -/
def ivalInclusionUptoRow : OpenClaim := { program := "ytmfmneanmamjbaadoor", sum := "7e4fefe11596b9d3836f141698a1fbe6a278c9a298c0d885b7094d4269555875", func := "ulp/ulplaw06.IvalInclusion", spec := "ivalInclusion", inPlace := ["math/bits.Add64", "math/bits.Sub64"], unfollowed := true, recurses := true, named := ["math/bits.deBruijn64tab", "math/bits.divideError", "math/bits.overflowError"], apart := false, laid := [("math/bits.deBruijn64tab", laid_math_bits_deBruijn64tab)], narrowed := true }
def IvalInclusionUptoSaid : Prop := ivalInclusionUptoRow.holds Tryd.pinned (OpenSpec.upto ivalInclusionSpec)

/-- 'ulplaw06.IvalBack', WHERE WHAT IT READS IS OF BULK AT MOST 1048576: true; the input reads as it did. -/
def ivalBackUptoRow : OpenClaim := { program := "ytmfmneanmamjbaadoor", sum := "7e4fefe11596b9d3836f141698a1fbe6a278c9a298c0d885b7094d4269555875", func := "ulp/ulplaw06.IvalBack", spec := "ivalBack", inPlace := ["math/bits.Add64", "math/bits.Sub64"], unfollowed := true, recurses := true, named := ["math/bits.deBruijn64tab", "math/bits.divideError", "math/bits.overflowError"], apart := false, laid := [("math/bits.deBruijn64tab", laid_math_bits_deBruijn64tab)], narrowed := true }
def IvalBackUptoSaid : Prop := ivalBackUptoRow.holds Tryd.pinned (OpenSpec.upto ivalBackSpec)

end Rows
end Go.Proofs.YtmfmneanmamjbaaDoor
