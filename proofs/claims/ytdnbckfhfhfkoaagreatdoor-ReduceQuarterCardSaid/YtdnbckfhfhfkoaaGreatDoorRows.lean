/-
  NARROWER THAN 'FOR EVERY INPUT', by the rows' own cells (each row's printed sentence says how): ReduceQuarter: laid · ReduceOdd: laid · ReduceTurn: laid · ReduceAngles: laid · ReduceExact: laid · ReduceNear: laid · ReduceBack: laid.
  DERIVED. THE GIVEN ROWS OF THIS SEAT. 7 by the template 'for every input the law returns true; each argument reads behind the call as it read before'; 0 by the template 'total and deterministic' (their statements: YtdnbckfhfhfkoaaGreatDoorTotals.lean).
  GIVEN WITH THE SEED: the statements are not yours to turn. If you find one false, say at which input.
  Laid BY PROGRAM, IN A SANDBOX (cutbox-rows.mjs): the forced cells as the released guide's own fill.sh prints them over the translation 364304a9dcc08412… (all of the seat's roots in one cut). By AI agents, Wed Nov 11 2026. No macro, syntax, notation, axiom, sorry.
-/
import Derived.Test.YtdnbckfhfhfkoaaGreatDoorChecked
import GoSem.Claim
import GoSem.ClaimJoined
import GoSem.ClaimMapViews
import Derived.JoinedTies
import Derived.KernelRfl
namespace Go.Proofs.YtdnbckfhfhfkoaaGreatDoor
/- THE CELL 'sum', in the pinned program and in every row, IS THE sha256 OF THE DUMP (.gsa) THAT YtdnbckfhfhfkoaaGreatDoorProg.lean LOADS. Nothing in Lean hashes anything: it is a label: what it is worth is what the hold of that sum in a sandbox is worth. -/
noncomputable def Tryz.pinned : Pinned := { name := "ytdnbckfhfhfkoaagreatdoor", sum := "364304a9dcc0841231cc57e1f52144bb6ac85711b6ece17e9427114fe2fdbd5f", checked := Tryz.checked }
namespace Rows
def none {H : Type} : Left H := { results := [], args := [] }

/- WHAT THE LISTED PACKAGE-LEVEL VARIABLES READ AS WHEN THE CALL BEGINS. Each datum BY PROGRAM (the guide's laid-datum.mjs) off the statement by which the dump's own 'gosem.cut.vars' lays the variable. In a bare row this is a premise. The card (YtdnbckfhfhfkoaaGreatDoorCards.lean) ties it to the program's text. -/
def laid_math_bits_deBruijn64tab {H : Type} : DataW H := .agg [.lit (.int .u8 0), .lit (.int .u8 1), .lit (.int .u8 56), .lit (.int .u8 2), .lit (.int .u8 57), .lit (.int .u8 49), .lit (.int .u8 28), .lit (.int .u8 3), .lit (.int .u8 61), .lit (.int .u8 58), .lit (.int .u8 42), .lit (.int .u8 50), .lit (.int .u8 38), .lit (.int .u8 29), .lit (.int .u8 17), .lit (.int .u8 4), .lit (.int .u8 62), .lit (.int .u8 47), .lit (.int .u8 59), .lit (.int .u8 36), .lit (.int .u8 45), .lit (.int .u8 43), .lit (.int .u8 51), .lit (.int .u8 22), .lit (.int .u8 53), .lit (.int .u8 39), .lit (.int .u8 33), .lit (.int .u8 30), .lit (.int .u8 24), .lit (.int .u8 18), .lit (.int .u8 12), .lit (.int .u8 5), .lit (.int .u8 63), .lit (.int .u8 55), .lit (.int .u8 48), .lit (.int .u8 27), .lit (.int .u8 60), .lit (.int .u8 41), .lit (.int .u8 37), .lit (.int .u8 16), .lit (.int .u8 46), .lit (.int .u8 35), .lit (.int .u8 44), .lit (.int .u8 21), .lit (.int .u8 52), .lit (.int .u8 32), .lit (.int .u8 23), .lit (.int .u8 11), .lit (.int .u8 54), .lit (.int .u8 26), .lit (.int .u8 40), .lit (.int .u8 15), .lit (.int .u8 34), .lit (.int .u8 20), .lit (.int .u8 31), .lit (.int .u8 10), .lit (.int .u8 25), .lit (.int .u8 14), .lit (.int .u8 19), .lit (.int .u8 9), .lit (.int .u8 13), .lit (.int .u8 8), .lit (.int .u8 7), .lit (.int .u8 6)]

/-- 'ulplaw14.ReduceQuarter': WHATEVER THE INPUT: true; the input reads as it did. -/
def reduceQuarterSpec : ChangeSpec := { name := "reduceQuarter", fn := fun _ => fun
  | [d1, d2] => { results := [.lit (.bool true)], args := [d1, d2] }
  | _ => none }
def reduceQuarterRow : OpenClaim := { program := "ytdnbckfhfhfkoaagreatdoor", sum := "364304a9dcc0841231cc57e1f52144bb6ac85711b6ece17e9427114fe2fdbd5f", func := "ulp/ulplaw14.ReduceQuarter", spec := "reduceQuarter", inPlace := ["math/bits.Add64", "math/bits.Sub64"], unfollowed := true, recurses := true, named := ["math/bits.deBruijn64tab", "math/bits.divideError", "math/bits.overflowError"], apart := false, laid := [("math/bits.deBruijn64tab", laid_math_bits_deBruijn64tab)] }
def ReduceQuarterSaid : Prop := reduceQuarterRow.holds Tryz.pinned (OpenSpec.ofChange reduceQuarterSpec)

/-- ITS FALSE NEIGHBOUR: 'it returns false'. Refute it at one input. -/
def reduceQuarterWrong : ChangeSpec := { name := "reduceQuarter", fn := fun _ => fun
  | [d1, d2] => { results := [.lit (.bool false)], args := [d1, d2] }
  | _ => none }
def ReduceQuarterWrongFalsely : Prop := reduceQuarterRow.holds Tryz.pinned (OpenSpec.ofChange reduceQuarterWrong)

/-- 'ulplaw14.ReduceOdd': WHATEVER THE INPUT: true; the input reads as it did. -/
def reduceOddSpec : ChangeSpec := { name := "reduceOdd", fn := fun _ => fun
  | [d1, d2] => { results := [.lit (.bool true)], args := [d1, d2] }
  | _ => none }
def reduceOddRow : OpenClaim := { program := "ytdnbckfhfhfkoaagreatdoor", sum := "364304a9dcc0841231cc57e1f52144bb6ac85711b6ece17e9427114fe2fdbd5f", func := "ulp/ulplaw14.ReduceOdd", spec := "reduceOdd", inPlace := ["math/bits.Add64", "math/bits.Sub64"], unfollowed := true, recurses := true, named := ["math/bits.deBruijn64tab", "math/bits.divideError", "math/bits.overflowError"], apart := false, laid := [("math/bits.deBruijn64tab", laid_math_bits_deBruijn64tab)] }
def ReduceOddSaid : Prop := reduceOddRow.holds Tryz.pinned (OpenSpec.ofChange reduceOddSpec)

/-- ITS FALSE NEIGHBOUR: 'it returns false'. Refute it at one input. -/
def reduceOddWrong : ChangeSpec := { name := "reduceOdd", fn := fun _ => fun
  | [d1, d2] => { results := [.lit (.bool false)], args := [d1, d2] }
  | _ => none }
def ReduceOddWrongFalsely : Prop := reduceOddRow.holds Tryz.pinned (OpenSpec.ofChange reduceOddWrong)

/-- 'ulplaw14.ReduceTurn': WHATEVER THE INPUT: true; the input reads as it did. -/
def reduceTurnSpec : ChangeSpec := { name := "reduceTurn", fn := fun _ => fun
  | [d] => { results := [.lit (.bool true)], args := [d] }
  | _ => none }
def reduceTurnRow : OpenClaim := { program := "ytdnbckfhfhfkoaagreatdoor", sum := "364304a9dcc0841231cc57e1f52144bb6ac85711b6ece17e9427114fe2fdbd5f", func := "ulp/ulplaw14.ReduceTurn", spec := "reduceTurn", inPlace := ["math/bits.Add64", "math/bits.Sub64"], unfollowed := true, recurses := true, named := ["math/bits.deBruijn64tab", "math/bits.divideError", "math/bits.overflowError"], apart := false, laid := [("math/bits.deBruijn64tab", laid_math_bits_deBruijn64tab)] }
def ReduceTurnSaid : Prop := reduceTurnRow.holds Tryz.pinned (OpenSpec.ofChange reduceTurnSpec)

/-- ITS FALSE NEIGHBOUR: 'it returns false'. Refute it at one input. -/
def reduceTurnWrong : ChangeSpec := { name := "reduceTurn", fn := fun _ => fun
  | [d] => { results := [.lit (.bool false)], args := [d] }
  | _ => none }
def ReduceTurnWrongFalsely : Prop := reduceTurnRow.holds Tryz.pinned (OpenSpec.ofChange reduceTurnWrong)

/-- 'ulplaw14.ReduceAngles': WHATEVER THE INPUT: true; the input reads as it did. -/
def reduceAnglesSpec : ChangeSpec := { name := "reduceAngles", fn := fun _ => fun
  | [d1, d2] => { results := [.lit (.bool true)], args := [d1, d2] }
  | _ => none }
def reduceAnglesRow : OpenClaim := { program := "ytdnbckfhfhfkoaagreatdoor", sum := "364304a9dcc0841231cc57e1f52144bb6ac85711b6ece17e9427114fe2fdbd5f", func := "ulp/ulplaw14.ReduceAngles", spec := "reduceAngles", inPlace := ["math/bits.Add64", "math/bits.Sub64"], unfollowed := true, recurses := true, named := ["math/bits.deBruijn64tab", "math/bits.divideError", "math/bits.overflowError"], apart := false, laid := [("math/bits.deBruijn64tab", laid_math_bits_deBruijn64tab)] }
def ReduceAnglesSaid : Prop := reduceAnglesRow.holds Tryz.pinned (OpenSpec.ofChange reduceAnglesSpec)

/-- ITS FALSE NEIGHBOUR: 'it returns false'. Refute it at one input. -/
def reduceAnglesWrong : ChangeSpec := { name := "reduceAngles", fn := fun _ => fun
  | [d1, d2] => { results := [.lit (.bool false)], args := [d1, d2] }
  | _ => none }
def ReduceAnglesWrongFalsely : Prop := reduceAnglesRow.holds Tryz.pinned (OpenSpec.ofChange reduceAnglesWrong)

/-- 'ulplaw14.ReduceExact': WHATEVER THE INPUT: true; the input reads as it did. -/
def reduceExactSpec : ChangeSpec := { name := "reduceExact", fn := fun _ => fun
  | [d] => { results := [.lit (.bool true)], args := [d] }
  | _ => none }
def reduceExactRow : OpenClaim := { program := "ytdnbckfhfhfkoaagreatdoor", sum := "364304a9dcc0841231cc57e1f52144bb6ac85711b6ece17e9427114fe2fdbd5f", func := "ulp/ulplaw14.ReduceExact", spec := "reduceExact", inPlace := ["math/bits.Add64", "math/bits.Sub64"], unfollowed := true, recurses := true, named := ["math/bits.deBruijn64tab", "math/bits.divideError", "math/bits.overflowError"], apart := false, laid := [("math/bits.deBruijn64tab", laid_math_bits_deBruijn64tab)] }
def ReduceExactSaid : Prop := reduceExactRow.holds Tryz.pinned (OpenSpec.ofChange reduceExactSpec)

/-- ITS FALSE NEIGHBOUR: 'it returns false'. Refute it at one input. -/
def reduceExactWrong : ChangeSpec := { name := "reduceExact", fn := fun _ => fun
  | [d] => { results := [.lit (.bool false)], args := [d] }
  | _ => none }
def ReduceExactWrongFalsely : Prop := reduceExactRow.holds Tryz.pinned (OpenSpec.ofChange reduceExactWrong)

/-- 'ulplaw14.ReduceNear': WHATEVER THE INPUT: true; the input reads as it did. -/
def reduceNearSpec : ChangeSpec := { name := "reduceNear", fn := fun _ => fun
  | [d1, d2] => { results := [.lit (.bool true)], args := [d1, d2] }
  | _ => none }
def reduceNearRow : OpenClaim := { program := "ytdnbckfhfhfkoaagreatdoor", sum := "364304a9dcc0841231cc57e1f52144bb6ac85711b6ece17e9427114fe2fdbd5f", func := "ulp/ulplaw14.ReduceNear", spec := "reduceNear", inPlace := ["math/bits.Add64", "math/bits.Sub64"], unfollowed := true, recurses := true, named := ["math/bits.deBruijn64tab", "math/bits.divideError", "math/bits.overflowError"], apart := false, laid := [("math/bits.deBruijn64tab", laid_math_bits_deBruijn64tab)] }
def ReduceNearSaid : Prop := reduceNearRow.holds Tryz.pinned (OpenSpec.ofChange reduceNearSpec)

/-- ITS FALSE NEIGHBOUR: 'it returns false'. Refute it at one input. -/
def reduceNearWrong : ChangeSpec := { name := "reduceNear", fn := fun _ => fun
  | [d1, d2] => { results := [.lit (.bool false)], args := [d1, d2] }
  | _ => none }
def ReduceNearWrongFalsely : Prop := reduceNearRow.holds Tryz.pinned (OpenSpec.ofChange reduceNearWrong)

/-- 'ulplaw14.ReduceBack': WHATEVER THE INPUT: true; the input reads as it did. -/
def reduceBackSpec : ChangeSpec := { name := "reduceBack", fn := fun _ => fun
  | [d] => { results := [.lit (.bool true)], args := [d] }
  | _ => none }
def reduceBackRow : OpenClaim := { program := "ytdnbckfhfhfkoaagreatdoor", sum := "364304a9dcc0841231cc57e1f52144bb6ac85711b6ece17e9427114fe2fdbd5f", func := "ulp/ulplaw14.ReduceBack", spec := "reduceBack", inPlace := ["math/bits.Add64", "math/bits.Sub64"], unfollowed := true, recurses := true, named := ["math/bits.deBruijn64tab", "math/bits.divideError", "math/bits.overflowError"], apart := false, laid := [("math/bits.deBruijn64tab", laid_math_bits_deBruijn64tab)] }
def ReduceBackSaid : Prop := reduceBackRow.holds Tryz.pinned (OpenSpec.ofChange reduceBackSpec)

/-- ITS FALSE NEIGHBOUR: 'it returns false'. Refute it at one input. -/
def reduceBackWrong : ChangeSpec := { name := "reduceBack", fn := fun _ => fun
  | [d] => { results := [.lit (.bool false)], args := [d] }
  | _ => none }
def ReduceBackWrongFalsely : Prop := reduceBackRow.holds Tryz.pinned (OpenSpec.ofChange reduceBackWrong)

/- THE SECOND FORM. 'bulk': how many values and letters a reading holds, each counted each time it is reached (what is shared counts as often as it is met; a slice's spare places count too). A statement '..UptoSaid' is the law's where the arguments, and the package variables that the reading takes, are together of bulk at most 1048576: NARROWER than '..Said'. Prove '..Said' where nothing that the law and all that it calls make is longer than what came in: it says more and counts as full. Else prove '..UptoSaid'. A law counts once. -/
mutual
def uptoBulk {H : Type} : DataW H → Nat
  | .lit (.string bytes) => bytes.length + 1
  | .lit _ => 1
  | .nil => 1
  | .ptr d => uptoBulk d + 1
  | .slice elems spare => uptoBulkAll elems + uptoBulkAll spare + 1
  | .agg parts => uptoBulkAll parts + 1
  | .iface _ d => uptoBulk d + 1
  | .map entries => uptoBulkEntries entries + 1
  | .held _ => 1
def uptoBulkAll {H : Type} : List (DataW H) → Nat
  | [] => 0
  | d :: r => uptoBulk d + uptoBulkAll r
def uptoBulkEntries {H : Type} : List (Lit × DataW H) → Nat
  | [] => 0
  | x :: r => uptoBulkEntry x + uptoBulkEntries r
def uptoBulkEntry {H : Type} : Lit × DataW H → Nat
  | (.string bytes, d) => bytes.length + uptoBulk d + 1
  | (_, d) => uptoBulk d + 1
 end
def uptoSmall : (H : Type) → List (DataW H) → Bool := fun _ ds => decide (uptoBulkAll ds ≤ 1048576)
def OpenSpec.upto (s : _root_.Go.ChangeSpec) : _root_.Go.OpenSpec := { _root_.Go.OpenSpec.ofChange s with cond := some uptoSmall }

/-- 'ulplaw14.ReduceQuarter', WHERE WHAT IT READS IS OF BULK AT MOST 1048576: true; the input reads as it did. -/
def reduceQuarterUptoRow : OpenClaim := { program := "ytdnbckfhfhfkoaagreatdoor", sum := "364304a9dcc0841231cc57e1f52144bb6ac85711b6ece17e9427114fe2fdbd5f", func := "ulp/ulplaw14.ReduceQuarter", spec := "reduceQuarter", inPlace := ["math/bits.Add64", "math/bits.Sub64"], unfollowed := true, recurses := true, named := ["math/bits.deBruijn64tab", "math/bits.divideError", "math/bits.overflowError"], apart := false, laid := [("math/bits.deBruijn64tab", laid_math_bits_deBruijn64tab)], narrowed := true }
def ReduceQuarterUptoSaid : Prop := reduceQuarterUptoRow.holds Tryz.pinned (OpenSpec.upto reduceQuarterSpec)

/-- 'ulplaw14.ReduceOdd', WHERE WHAT IT READS IS OF BULK AT MOST 1048576: true; the input reads as it did. -/
def reduceOddUptoRow : OpenClaim := { program := "ytdnbckfhfhfkoaagreatdoor", sum := "364304a9dcc0841231cc57e1f52144bb6ac85711b6ece17e9427114fe2fdbd5f", func := "ulp/ulplaw14.ReduceOdd", spec := "reduceOdd", inPlace := ["math/bits.Add64", "math/bits.Sub64"], unfollowed := true, recurses := true, named := ["math/bits.deBruijn64tab", "math/bits.divideError", "math/bits.overflowError"], apart := false, laid := [("math/bits.deBruijn64tab", laid_math_bits_deBruijn64tab)], narrowed := true }
def ReduceOddUptoSaid : Prop := reduceOddUptoRow.holds Tryz.pinned (OpenSpec.upto reduceOddSpec)

/-- 'ulplaw14.ReduceTurn', WHERE WHAT IT READS IS OF BULK AT MOST 1048576: true; the input reads as it did. -/
def reduceTurnUptoRow : OpenClaim := { program := "ytdnbckfhfhfkoaagreatdoor", sum := "364304a9dcc0841231cc57e1f52144bb6ac85711b6ece17e9427114fe2fdbd5f", func := "ulp/ulplaw14.ReduceTurn", spec := "reduceTurn", inPlace := ["math/bits.Add64", "math/bits.Sub64"], unfollowed := true, recurses := true, named := ["math/bits.deBruijn64tab", "math/bits.divideError", "math/bits.overflowError"], apart := false, laid := [("math/bits.deBruijn64tab", laid_math_bits_deBruijn64tab)], narrowed := true }
def ReduceTurnUptoSaid : Prop := reduceTurnUptoRow.holds Tryz.pinned (OpenSpec.upto reduceTurnSpec)

/-- 'ulplaw14.ReduceAngles', WHERE WHAT IT READS IS OF BULK AT MOST 1048576: true; the input reads as it did. -/
def reduceAnglesUptoRow : OpenClaim := { program := "ytdnbckfhfhfkoaagreatdoor", sum := "364304a9dcc0841231cc57e1f52144bb6ac85711b6ece17e9427114fe2fdbd5f", func := "ulp/ulplaw14.ReduceAngles", spec := "reduceAngles", inPlace := ["math/bits.Add64", "math/bits.Sub64"], unfollowed := true, recurses := true, named := ["math/bits.deBruijn64tab", "math/bits.divideError", "math/bits.overflowError"], apart := false, laid := [("math/bits.deBruijn64tab", laid_math_bits_deBruijn64tab)], narrowed := true }
def ReduceAnglesUptoSaid : Prop := reduceAnglesUptoRow.holds Tryz.pinned (OpenSpec.upto reduceAnglesSpec)

/-- 'ulplaw14.ReduceExact', WHERE WHAT IT READS IS OF BULK AT MOST 1048576: true; the input reads as it did. -/
def reduceExactUptoRow : OpenClaim := { program := "ytdnbckfhfhfkoaagreatdoor", sum := "364304a9dcc0841231cc57e1f52144bb6ac85711b6ece17e9427114fe2fdbd5f", func := "ulp/ulplaw14.ReduceExact", spec := "reduceExact", inPlace := ["math/bits.Add64", "math/bits.Sub64"], unfollowed := true, recurses := true, named := ["math/bits.deBruijn64tab", "math/bits.divideError", "math/bits.overflowError"], apart := false, laid := [("math/bits.deBruijn64tab", laid_math_bits_deBruijn64tab)], narrowed := true }
def ReduceExactUptoSaid : Prop := reduceExactUptoRow.holds Tryz.pinned (OpenSpec.upto reduceExactSpec)

/-- 'ulplaw14.ReduceNear', WHERE WHAT IT READS IS OF BULK AT MOST 1048576: true; the input reads as it did. -/
def reduceNearUptoRow : OpenClaim := { program := "ytdnbckfhfhfkoaagreatdoor", sum := "364304a9dcc0841231cc57e1f52144bb6ac85711b6ece17e9427114fe2fdbd5f", func := "ulp/ulplaw14.ReduceNear", spec := "reduceNear", inPlace := ["math/bits.Add64", "math/bits.Sub64"], unfollowed := true, recurses := true, named := ["math/bits.deBruijn64tab", "math/bits.divideError", "math/bits.overflowError"], apart := false, laid := [("math/bits.deBruijn64tab", laid_math_bits_deBruijn64tab)], narrowed := true }
def ReduceNearUptoSaid : Prop := reduceNearUptoRow.holds Tryz.pinned (OpenSpec.upto reduceNearSpec)

/-- 'ulplaw14.ReduceBack', WHERE WHAT IT READS IS OF BULK AT MOST 1048576: true; the input reads as it did. -/
def reduceBackUptoRow : OpenClaim := { program := "ytdnbckfhfhfkoaagreatdoor", sum := "364304a9dcc0841231cc57e1f52144bb6ac85711b6ece17e9427114fe2fdbd5f", func := "ulp/ulplaw14.ReduceBack", spec := "reduceBack", inPlace := ["math/bits.Add64", "math/bits.Sub64"], unfollowed := true, recurses := true, named := ["math/bits.deBruijn64tab", "math/bits.divideError", "math/bits.overflowError"], apart := false, laid := [("math/bits.deBruijn64tab", laid_math_bits_deBruijn64tab)], narrowed := true }
def ReduceBackUptoSaid : Prop := reduceBackUptoRow.holds Tryz.pinned (OpenSpec.upto reduceBackSpec)

end Rows
end Go.Proofs.YtdnbckfhfhfkoaaGreatDoor
