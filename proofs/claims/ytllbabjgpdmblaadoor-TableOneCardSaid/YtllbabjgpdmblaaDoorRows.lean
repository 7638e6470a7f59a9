/-
  NARROWER THAN 'FOR EVERY INPUT', by the rows' own cells (each row's printed sentence says how): VerifyRules: laid · VerifyInvalid: laid · VerifySound: laid · TableMeans: laid · TableOne: laid · TableLeaves: laid · TableAsked: laid · TableOthers: laid · VerifyCompiler: laid · VerifyChanges: laid.
  DERIVED. THE GIVEN ROWS OF THIS SEAT. 10 by the template 'for every input the law returns true; each argument reads behind the call as it read before'; 0 by the template 'total and deterministic' (their statements: YtllbabjgpdmblaaDoorTotals.lean).
  GIVEN WITH THE SEED: the statements are not yours to turn. If you find one false, say at which input.
  Laid BY PROGRAM, IN A SANDBOX (cutbox-rows.mjs): the forced cells as the released guide's own fill.sh prints them over the translation 579987a5dfa36904… (all of the seat's roots in one cut). By AI agents, Wed Nov 11 2026. No macro, syntax, notation, axiom, sorry.
-/
import Derived.Test.YtllbabjgpdmblaaDoorChecked
import GoSem.Claim
import GoSem.ClaimJoined
import GoSem.ClaimMapViews
import Derived.JoinedTies
import Derived.KernelRfl
namespace Go.Proofs.YtllbabjgpdmblaaDoor
/- THE CELL 'sum', in the pinned program and in every row, IS THE sha256 OF THE DUMP (.gsa) THAT YtllbabjgpdmblaaDoorProg.lean LOADS. Nothing in Lean hashes anything: it is a label: what it is worth is what the hold of that sum in a sandbox is worth. -/
noncomputable def Tryd.pinned : Pinned := { name := "ytllbabjgpdmblaadoor", sum := "579987a5dfa369041500aa38b6c5a4131455eea88ebf088448063d8e898811dd", checked := Tryd.checked }
namespace Rows
def none {H : Type} : Left H := { results := [], args := [] }

/- WHAT THE LISTED PACKAGE-LEVEL VARIABLES READ AS WHEN THE CALL BEGINS. Each datum BY PROGRAM (the guide's laid-datum.mjs) off the statement by which the dump's own 'gosem.cut.vars' lays the variable. In a bare row this is a premise. The card (YtllbabjgpdmblaaDoorCards.lean) ties it to the program's text. -/
def laid_math_bits_deBruijn32tab {H : Type} : DataW H := .agg [.lit (.int .u8 0), .lit (.int .u8 1), .lit (.int .u8 28), .lit (.int .u8 2), .lit (.int .u8 29), .lit (.int .u8 14), .lit (.int .u8 24), .lit (.int .u8 3), .lit (.int .u8 30), .lit (.int .u8 22), .lit (.int .u8 20), .lit (.int .u8 15), .lit (.int .u8 25), .lit (.int .u8 17), .lit (.int .u8 4), .lit (.int .u8 8), .lit (.int .u8 31), .lit (.int .u8 27), .lit (.int .u8 13), .lit (.int .u8 23), .lit (.int .u8 21), .lit (.int .u8 19), .lit (.int .u8 16), .lit (.int .u8 7), .lit (.int .u8 26), .lit (.int .u8 12), .lit (.int .u8 18), .lit (.int .u8 6), .lit (.int .u8 11), .lit (.int .u8 5), .lit (.int .u8 10), .lit (.int .u8 9)]
def laid_math_bits_deBruijn64tab {H : Type} : DataW H := .agg [.lit (.int .u8 0), .lit (.int .u8 1), .lit (.int .u8 56), .lit (.int .u8 2), .lit (.int .u8 57), .lit (.int .u8 49), .lit (.int .u8 28), .lit (.int .u8 3), .lit (.int .u8 61), .lit (.int .u8 58), .lit (.int .u8 42), .lit (.int .u8 50), .lit (.int .u8 38), .lit (.int .u8 29), .lit (.int .u8 17), .lit (.int .u8 4), .lit (.int .u8 62), .lit (.int .u8 47), .lit (.int .u8 59), .lit (.int .u8 36), .lit (.int .u8 45), .lit (.int .u8 43), .lit (.int .u8 51), .lit (.int .u8 22), .lit (.int .u8 53), .lit (.int .u8 39), .lit (.int .u8 33), .lit (.int .u8 30), .lit (.int .u8 24), .lit (.int .u8 18), .lit (.int .u8 12), .lit (.int .u8 5), .lit (.int .u8 63), .lit (.int .u8 55), .lit (.int .u8 48), .lit (.int .u8 27), .lit (.int .u8 60), .lit (.int .u8 41), .lit (.int .u8 37), .lit (.int .u8 16), .lit (.int .u8 46), .lit (.int .u8 35), .lit (.int .u8 44), .lit (.int .u8 21), .lit (.int .u8 52), .lit (.int .u8 32), .lit (.int .u8 23), .lit (.int .u8 11), .lit (.int .u8 54), .lit (.int .u8 26), .lit (.int .u8 40), .lit (.int .u8 15), .lit (.int .u8 34), .lit (.int .u8 20), .lit (.int .u8 31), .lit (.int .u8 10), .lit (.int .u8 25), .lit (.int .u8 14), .lit (.int .u8 19), .lit (.int .u8 9), .lit (.int .u8 13), .lit (.int .u8 8), .lit (.int .u8 7), .lit (.int .u8 6)]
def laid_internal_strconv_uint64pow10 {H : Type} : DataW H := .agg [.lit (.int .u64 1), .lit (.int .u64 10), .lit (.int .u64 100), .lit (.int .u64 1000), .lit (.int .u64 10000), .lit (.int .u64 100000), .lit (.int .u64 1000000), .lit (.int .u64 10000000), .lit (.int .u64 100000000), .lit (.int .u64 1000000000), .lit (.int .u64 10000000000), .lit (.int .u64 100000000000), .lit (.int .u64 1000000000000), .lit (.int .u64 10000000000000), .lit (.int .u64 100000000000000), .lit (.int .u64 1000000000000000), .lit (.int .u64 10000000000000000), .lit (.int .u64 100000000000000000), .lit (.int .u64 1000000000000000000), .lit (.int .u64 10000000000000000000)]

/-- 'foyerlaw15.VerifyRules': WHATEVER THE INPUT: true; the input reads as it did. -/
def verifyRulesSpec : ChangeSpec := { name := "verifyRules", fn := fun _ => fun
  | [d1, d2, d3] => { results := [.lit (.bool true)], args := [d1, d2, d3] }
  | _ => none }
def verifyRulesRow : OpenClaim := { program := "ytllbabjgpdmblaadoor", sum := "579987a5dfa369041500aa38b6c5a4131455eea88ebf088448063d8e898811dd", func := "foyer/foyerlaw15.VerifyRules", spec := "verifyRules", inPlace := ["internal/abi.NoEscape"], unfollowed := true, recurses := true, named := ["internal/strconv.uint64pow10", "math/bits.deBruijn32tab", "math/bits.deBruijn64tab"], plainKeys := false, apart := false, laid := [("math/bits.deBruijn32tab", laid_math_bits_deBruijn32tab), ("math/bits.deBruijn64tab", laid_math_bits_deBruijn64tab), ("internal/strconv.uint64pow10", laid_internal_strconv_uint64pow10)] }
def VerifyRulesSaid : Prop := verifyRulesRow.holds Tryd.pinned (OpenSpec.ofChange verifyRulesSpec)

/-- ITS FALSE NEIGHBOUR: 'it returns false'. Refute it at one input. -/
def verifyRulesWrong : ChangeSpec := { name := "verifyRules", fn := fun _ => fun
  | [d1, d2, d3] => { results := [.lit (.bool false)], args := [d1, d2, d3] }
  | _ => none }
def VerifyRulesWrongFalsely : Prop := verifyRulesRow.holds Tryd.pinned (OpenSpec.ofChange verifyRulesWrong)

/-- 'foyerlaw15.VerifyInvalid': WHATEVER THE INPUT: true; the input reads as it did. -/
def verifyInvalidSpec : ChangeSpec := { name := "verifyInvalid", fn := fun _ => fun
  | [d1, d2] => { results := [.lit (.bool true)], args := [d1, d2] }
  | _ => none }
def verifyInvalidRow : OpenClaim := { program := "ytllbabjgpdmblaadoor", sum := "579987a5dfa369041500aa38b6c5a4131455eea88ebf088448063d8e898811dd", func := "foyer/foyerlaw15.VerifyInvalid", spec := "verifyInvalid", inPlace := ["internal/abi.NoEscape"], unfollowed := true, recurses := true, named := ["internal/strconv.uint64pow10", "math/bits.deBruijn32tab", "math/bits.deBruijn64tab"], plainKeys := false, apart := false, laid := [("math/bits.deBruijn32tab", laid_math_bits_deBruijn32tab), ("math/bits.deBruijn64tab", laid_math_bits_deBruijn64tab), ("internal/strconv.uint64pow10", laid_internal_strconv_uint64pow10)] }
def VerifyInvalidSaid : Prop := verifyInvalidRow.holds Tryd.pinned (OpenSpec.ofChange verifyInvalidSpec)

/-- ITS FALSE NEIGHBOUR: 'it returns false'. Refute it at one input. -/
def verifyInvalidWrong : ChangeSpec := { name := "verifyInvalid", fn := fun _ => fun
  | [d1, d2] => { results := [.lit (.bool false)], args := [d1, d2] }
  | _ => none }
def VerifyInvalidWrongFalsely : Prop := verifyInvalidRow.holds Tryd.pinned (OpenSpec.ofChange verifyInvalidWrong)

/-- 'foyerlaw15.VerifySound': WHATEVER THE INPUT: true; the input reads as it did. -/
def verifySoundSpec : ChangeSpec := { name := "verifySound", fn := fun _ => fun
  | [d1, d2, d3] => { results := [.lit (.bool true)], args := [d1, d2, d3] }
  | _ => none }
def verifySoundRow : OpenClaim := { program := "ytllbabjgpdmblaadoor", sum := "579987a5dfa369041500aa38b6c5a4131455eea88ebf088448063d8e898811dd", func := "foyer/foyerlaw15.VerifySound", spec := "verifySound", inPlace := ["internal/abi.NoEscape"], unfollowed := true, recurses := true, named := ["internal/strconv.uint64pow10", "math/bits.deBruijn32tab", "math/bits.deBruijn64tab"], plainKeys := false, apart := false, laid := [("math/bits.deBruijn32tab", laid_math_bits_deBruijn32tab), ("math/bits.deBruijn64tab", laid_math_bits_deBruijn64tab), ("internal/strconv.uint64pow10", laid_internal_strconv_uint64pow10)] }
def VerifySoundSaid : Prop := verifySoundRow.holds Tryd.pinned (OpenSpec.ofChange verifySoundSpec)

/-- ITS FALSE NEIGHBOUR: 'it returns false'. Refute it at one input. -/
def verifySoundWrong : ChangeSpec := { name := "verifySound", fn := fun _ => fun
  | [d1, d2, d3] => { results := [.lit (.bool false)], args := [d1, d2, d3] }
  | _ => none }
def VerifySoundWrongFalsely : Prop := verifySoundRow.holds Tryd.pinned (OpenSpec.ofChange verifySoundWrong)

/-- 'foyerlaw14.TableMeans': WHATEVER THE INPUT: true; the input reads as it did. -/
def tableMeansSpec : ChangeSpec := { name := "tableMeans", fn := fun _ => fun
  | [d1, d2] => { results := [.lit (.bool true)], args := [d1, d2] }
  | _ => none }
def tableMeansRow : OpenClaim := { program := "ytllbabjgpdmblaadoor", sum := "579987a5dfa369041500aa38b6c5a4131455eea88ebf088448063d8e898811dd", func := "foyer/foyerlaw14.TableMeans", spec := "tableMeans", inPlace := ["internal/abi.NoEscape"], unfollowed := true, recurses := true, named := ["internal/strconv.uint64pow10", "math/bits.deBruijn32tab", "math/bits.deBruijn64tab"], plainKeys := false, apart := false, laid := [("math/bits.deBruijn32tab", laid_math_bits_deBruijn32tab), ("math/bits.deBruijn64tab", laid_math_bits_deBruijn64tab), ("internal/strconv.uint64pow10", laid_internal_strconv_uint64pow10)] }
def TableMeansSaid : Prop := tableMeansRow.holds Tryd.pinned (OpenSpec.ofChange tableMeansSpec)

/-- ITS FALSE NEIGHBOUR: 'it returns false'. Refute it at one input. -/
def tableMeansWrong : ChangeSpec := { name := "tableMeans", fn := fun _ => fun
  | [d1, d2] => { results := [.lit (.bool false)], args := [d1, d2] }
  | _ => none }
def TableMeansWrongFalsely : Prop := tableMeansRow.holds Tryd.pinned (OpenSpec.ofChange tableMeansWrong)

/-- 'foyerlaw14.TableOne': WHATEVER THE INPUT: true; the input reads as it did. -/
def tableOneSpec : ChangeSpec := { name := "tableOne", fn := fun _ => fun
  | [d1, d2, d3, d4] => { results := [.lit (.bool true)], args := [d1, d2, d3, d4] }
  | _ => none }
def tableOneRow : OpenClaim := { program := "ytllbabjgpdmblaadoor", sum := "579987a5dfa369041500aa38b6c5a4131455eea88ebf088448063d8e898811dd", func := "foyer/foyerlaw14.TableOne", spec := "tableOne", inPlace := ["internal/abi.NoEscape"], unfollowed := true, recurses := true, named := ["internal/strconv.uint64pow10", "math/bits.deBruijn32tab", "math/bits.deBruijn64tab"], plainKeys := false, apart := false, laid := [("math/bits.deBruijn32tab", laid_math_bits_deBruijn32tab), ("math/bits.deBruijn64tab", laid_math_bits_deBruijn64tab), ("internal/strconv.uint64pow10", laid_internal_strconv_uint64pow10)] }
def TableOneSaid : Prop := tableOneRow.holds Tryd.pinned (OpenSpec.ofChange tableOneSpec)

/-- ITS FALSE NEIGHBOUR: 'it returns false'. Refute it at one input. -/
def tableOneWrong : ChangeSpec := { name := "tableOne", fn := fun _ => fun
  | [d1, d2, d3, d4] => { results := [.lit (.bool false)], args := [d1, d2, d3, d4] }
  | _ => none }
def TableOneWrongFalsely : Prop := tableOneRow.holds Tryd.pinned (OpenSpec.ofChange tableOneWrong)

/-- 'foyerlaw14.TableLeaves': WHATEVER THE INPUT: true; the input reads as it did. -/
def tableLeavesSpec : ChangeSpec := { name := "tableLeaves", fn := fun _ => fun
  | [d1, d2, d3] => { results := [.lit (.bool true)], args := [d1, d2, d3] }
  | _ => none }
def tableLeavesRow : OpenClaim := { program := "ytllbabjgpdmblaadoor", sum := "579987a5dfa369041500aa38b6c5a4131455eea88ebf088448063d8e898811dd", func := "foyer/foyerlaw14.TableLeaves", spec := "tableLeaves", inPlace := ["internal/abi.NoEscape"], unfollowed := true, recurses := true, named := ["internal/strconv.uint64pow10", "math/bits.deBruijn32tab", "math/bits.deBruijn64tab"], plainKeys := false, apart := false, laid := [("math/bits.deBruijn32tab", laid_math_bits_deBruijn32tab), ("math/bits.deBruijn64tab", laid_math_bits_deBruijn64tab), ("internal/strconv.uint64pow10", laid_internal_strconv_uint64pow10)] }
def TableLeavesSaid : Prop := tableLeavesRow.holds Tryd.pinned (OpenSpec.ofChange tableLeavesSpec)

/-- ITS FALSE NEIGHBOUR: 'it returns false'. Refute it at one input. -/
def tableLeavesWrong : ChangeSpec := { name := "tableLeaves", fn := fun _ => fun
  | [d1, d2, d3] => { results := [.lit (.bool false)], args := [d1, d2, d3] }
  | _ => none }
def TableLeavesWrongFalsely : Prop := tableLeavesRow.holds Tryd.pinned (OpenSpec.ofChange tableLeavesWrong)

/-- 'foyerlaw14.TableAsked': WHATEVER THE INPUT: true; the input reads as it did. -/
def tableAskedSpec : ChangeSpec := { name := "tableAsked", fn := fun _ => fun
  | [d1, d2, d3] => { results := [.lit (.bool true)], args := [d1, d2, d3] }
  | _ => none }
def tableAskedRow : OpenClaim := { program := "ytllbabjgpdmblaadoor", sum := "579987a5dfa369041500aa38b6c5a4131455eea88ebf088448063d8e898811dd", func := "foyer/foyerlaw14.TableAsked", spec := "tableAsked", inPlace := ["internal/abi.NoEscape"], unfollowed := true, recurses := true, named := ["internal/strconv.uint64pow10", "math/bits.deBruijn32tab", "math/bits.deBruijn64tab"], plainKeys := false, apart := false, laid := [("math/bits.deBruijn32tab", laid_math_bits_deBruijn32tab), ("math/bits.deBruijn64tab", laid_math_bits_deBruijn64tab), ("internal/strconv.uint64pow10", laid_internal_strconv_uint64pow10)] }
def TableAskedSaid : Prop := tableAskedRow.holds Tryd.pinned (OpenSpec.ofChange tableAskedSpec)

/-- ITS FALSE NEIGHBOUR: 'it returns false'. Refute it at one input. -/
def tableAskedWrong : ChangeSpec := { name := "tableAsked", fn := fun _ => fun
  | [d1, d2, d3] => { results := [.lit (.bool false)], args := [d1, d2, d3] }
  | _ => none }
def TableAskedWrongFalsely : Prop := tableAskedRow.holds Tryd.pinned (OpenSpec.ofChange tableAskedWrong)

/-- 'foyerlaw14.TableOthers': WHATEVER THE INPUT: true; the input reads as it did. -/
def tableOthersSpec : ChangeSpec := { name := "tableOthers", fn := fun _ => fun
  | [d1, d2, d3, d4] => { results := [.lit (.bool true)], args := [d1, d2, d3, d4] }
  | _ => none }
def tableOthersRow : OpenClaim := { program := "ytllbabjgpdmblaadoor", sum := "579987a5dfa369041500aa38b6c5a4131455eea88ebf088448063d8e898811dd", func := "foyer/foyerlaw14.TableOthers", spec := "tableOthers", inPlace := ["internal/abi.NoEscape"], unfollowed := true, recurses := true, named := ["internal/strconv.uint64pow10", "math/bits.deBruijn32tab", "math/bits.deBruijn64tab"], plainKeys := false, apart := false, laid := [("math/bits.deBruijn32tab", laid_math_bits_deBruijn32tab), ("math/bits.deBruijn64tab", laid_math_bits_deBruijn64tab), ("internal/strconv.uint64pow10", laid_internal_strconv_uint64pow10)] }
def TableOthersSaid : Prop := tableOthersRow.holds Tryd.pinned (OpenSpec.ofChange tableOthersSpec)

/-- ITS FALSE NEIGHBOUR: 'it returns false'. Refute it at one input. -/
def tableOthersWrong : ChangeSpec := { name := "tableOthers", fn := fun _ => fun
  | [d1, d2, d3, d4] => { results := [.lit (.bool false)], args := [d1, d2, d3, d4] }
  | _ => none }
def TableOthersWrongFalsely : Prop := tableOthersRow.holds Tryd.pinned (OpenSpec.ofChange tableOthersWrong)

/-- 'foyerlaw15.VerifyCompiler': WHATEVER THE INPUT: true; the input reads as it did. -/
def verifyCompilerSpec : ChangeSpec := { name := "verifyCompiler", fn := fun _ => fun
  | [d1, d2] => { results := [.lit (.bool true)], args := [d1, d2] }
  | _ => none }
def verifyCompilerRow : OpenClaim := { program := "ytllbabjgpdmblaadoor", sum := "579987a5dfa369041500aa38b6c5a4131455eea88ebf088448063d8e898811dd", func := "foyer/foyerlaw15.VerifyCompiler", spec := "verifyCompiler", inPlace := ["internal/abi.NoEscape"], unfollowed := true, recurses := true, named := ["internal/strconv.uint64pow10", "math/bits.deBruijn32tab", "math/bits.deBruijn64tab"], plainKeys := false, apart := false, laid := [("math/bits.deBruijn32tab", laid_math_bits_deBruijn32tab), ("math/bits.deBruijn64tab", laid_math_bits_deBruijn64tab), ("internal/strconv.uint64pow10", laid_internal_strconv_uint64pow10)] }
def VerifyCompilerSaid : Prop := verifyCompilerRow.holds Tryd.pinned (OpenSpec.ofChange verifyCompilerSpec)

/-- ITS FALSE NEIGHBOUR: 'it returns false'. Refute it at one input. -/
def verifyCompilerWrong : ChangeSpec := { name := "verifyCompiler", fn := fun _ => fun
  | [d1, d2] => { results := [.lit (.bool false)], args := [d1, d2] }
  | _ => none }
def VerifyCompilerWrongFalsely : Prop := verifyCompilerRow.holds Tryd.pinned (OpenSpec.ofChange verifyCompilerWrong)

/-- 'foyerlaw15.VerifyChanges': WHATEVER THE INPUT: true; the input reads as it did. -/
def verifyChangesSpec : ChangeSpec := { name := "verifyChanges", fn := fun _ => fun
  | [d1, d2, d3] => { results := [.lit (.bool true)], args := [d1, d2, d3] }
  | _ => none }
def verifyChangesRow : OpenClaim := { program := "ytllbabjgpdmblaadoor", sum := "579987a5dfa369041500aa38b6c5a4131455eea88ebf088448063d8e898811dd", func := "foyer/foyerlaw15.VerifyChanges", spec := "verifyChanges", inPlace := ["internal/abi.NoEscape"], unfollowed := true, recurses := true, named := ["internal/strconv.uint64pow10", "math/bits.deBruijn32tab", "math/bits.deBruijn64tab"], plainKeys := false, apart := false, laid := [("math/bits.deBruijn32tab", laid_math_bits_deBruijn32tab), ("math/bits.deBruijn64tab", laid_math_bits_deBruijn64tab), ("internal/strconv.uint64pow10", laid_internal_strconv_uint64pow10)] }
def VerifyChangesSaid : Prop := verifyChangesRow.holds Tryd.pinned (OpenSpec.ofChange verifyChangesSpec)

/-- ITS FALSE NEIGHBOUR: 'it returns false'. Refute it at one input. -/
def verifyChangesWrong : ChangeSpec := { name := "verifyChanges", fn := fun _ => fun
  | [d1, d2, d3] => { results := [.lit (.bool false)], args := [d1, d2, d3] }
  | _ => none }
def VerifyChangesWrongFalsely : Prop := verifyChangesRow.holds Tryd.pinned (OpenSpec.ofChange verifyChangesWrong)

/- THE SECOND FORM. 'bulk': how many values and letters a reading holds, each counted each time it is reached (what is shared counts as often as it is met; a slice's spare places count too). A statement '..UptoSaid' is the law's where the arguments, and the package variables that the reading takes, are together of bulk at most 1048576: NARROWER than '..Said'. Prove '..Said' where nothing that the law and all that it calls make is longer than what came in: it says more and counts as full. Else prove '..UptoSaid'. A law counts once. -/
mutual
def uptoBulk {H : Type} : DataW H → Nat
  | .lit (.string bytes) => bytes.length + 1
  | .lit _ => 1
  | .nil => 1
  | .ptr d => uptoBulk d + 1
  | .slice elems spare => uptoBulkAll elems + uptoBulkAll spare + 1
  | .agg parts => uptoBulkAll parts + 1
  | .iface _ d => uptoBulk d + 1
  | .map entries => uptoBulkEntries entries + 1
  | .held _ => 1
def uptoBulkAll {H : Type} : List (DataW H) → Nat
  | [] => 0
  | d :: r => uptoBulk d + uptoBulkAll r
def uptoBulkEntries {H : Type} : List (Lit × DataW H) → Nat
  | [] => 0
  | x :: r => uptoBulkEntry x + uptoBulkEntries r
def uptoBulkEntry {H : Type} : Lit × DataW H → Nat
  | (.string bytes, d) => bytes.length + uptoBulk d + 1
  | (_, d) => uptoBulk d + 1
 end
def uptoSmall : (H : Type) → List (DataW H) → Bool := fun _ ds => decide (uptoBulkAll ds ≤ 1048576)
def OpenSpec.upto (s : _root_.Go.ChangeSpec) : _root_.Go.OpenSpec := { _root_.Go.OpenSpec.ofChange s with cond := some uptoSmall }

/-- 'foyerlaw15.VerifyRules', WHERE WHAT IT READS IS OF BULK AT MOST 1048576: true; the input reads as it did. -/
def verifyRulesUptoRow : OpenClaim := { program := "ytllbabjgpdmblaadoor", sum := "579987a5dfa369041500aa38b6c5a4131455eea88ebf088448063d8e898811dd", func := "foyer/foyerlaw15.VerifyRules", spec := "verifyRules", inPlace := ["internal/abi.NoEscape"], unfollowed := true, recurses := true, named := ["internal/strconv.uint64pow10", "math/bits.deBruijn32tab", "math/bits.deBruijn64tab"], plainKeys := false, apart := false, laid := [("math/bits.deBruijn32tab", laid_math_bits_deBruijn32tab), ("math/bits.deBruijn64tab", laid_math_bits_deBruijn64tab), ("internal/strconv.uint64pow10", laid_internal_strconv_uint64pow10)], narrowed := true }
def VerifyRulesUptoSaid : Prop := verifyRulesUptoRow.holds Tryd.pinned (OpenSpec.upto verifyRulesSpec)

/-- 'foyerlaw15.VerifyInvalid', WHERE WHAT IT READS IS OF BULK AT MOST 1048576: true; the input reads as it did. -/
def verifyInvalidUptoRow : OpenClaim := { program := "ytllbabjgpdmblaadoor", sum := "579987a5dfa369041500aa38b6c5a4131455eea88ebf088448063d8e898811dd", func := "foyer/foyerlaw15.VerifyInvalid", spec := "verifyInvalid", inPlace := ["internal/abi.NoEscape"], unfollowed := true, recurses := true, named := ["internal/strconv.uint64pow10", "math/bits.deBruijn32tab", "math/bits.deBruijn64tab"], plainKeys := false, apart := false, laid := [("math/bits.deBruijn32tab", laid_math_bits_deBruijn32tab), ("math/bits.deBruijn64tab", laid_math_bits_deBruijn64tab), ("internal/strconv.uint64pow10", laid_internal_strconv_uint64pow10)], narrowed := true }
def VerifyInvalidUptoSaid : Prop := verifyInvalidUptoRow.holds Tryd.pinned (OpenSpec.upto verifyInvalidSpec)

/-- 'foyerlaw15.VerifySound', WHERE WHAT IT READS IS OF BULK AT MOST 1048576: true; the input reads as it did. -/
def verifySoundUptoRow : OpenClaim := { program := "ytllbabjgpdmblaadoor", sum := "579987a5dfa369041500aa38b6c5a4131455eea88ebf088448063d8e898811dd", func := "foyer/foyerlaw15.VerifySound", spec := "verifySound", inPlace := ["internal/abi.NoEscape"], unfollowed := true, recurses := true, named := ["internal/strconv.uint64pow10", "math/bits.deBruijn32tab", "math/bits.deBruijn64tab"], plainKeys := false, apart := false, laid := [("math/bits.deBruijn32tab", laid_math_bits_deBruijn32tab), ("math/bits.deBruijn64tab", laid_math_bits_deBruijn64tab), ("internal/strconv.uint64pow10", laid_internal_strconv_uint64pow10)], narrowed := true }
def VerifySoundUptoSaid : Prop := verifySoundUptoRow.holds Tryd.pinned (OpenSpec.upto verifySoundSpec)

/-- 'foyerlaw14.TableMeans', WHERE WHAT IT READS IS OF BULK AT MOST 1048576: true; the input reads as it did. -/
def tableMeansUptoRow : OpenClaim := { program := "ytllbabjgpdmblaadoor", sum := "579987a5dfa369041500aa38b6c5a4131455eea88ebf088448063d8e898811dd", func := "foyer/foyerlaw14.TableMeans", spec := "tableMeans", inPlace := ["internal/abi.NoEscape"], unfollowed := true, recurses := true, named := ["internal/strconv.uint64pow10", "math/bits.deBruijn32tab", "math/bits.deBruijn64tab"], plainKeys := false, apart := false, laid := [("math/bits.deBruijn32tab", laid_math_bits_deBruijn32tab), ("math/bits.deBruijn64tab", laid_math_bits_deBruijn64tab), ("internal/strconv.uint64pow10", laid_internal_strconv_uint64pow10)], narrowed := true }
def TableMeansUptoSaid : Prop := tableMeansUptoRow.holds Tryd.pinned (OpenSpec.upto tableMeansSpec)

/-- 'foyerlaw14.TableOne', WHERE WHAT IT READS IS OF BULK AT MOST 1048576: true; the input reads as it did. -/
def tableOneUptoRow : OpenClaim := { program := "ytllbabjgpdmblaadoor", sum := "579987a5dfa369041500aa38b6c5a4131455eea88ebf088448063d8e898811dd", func := "foyer/foyerlaw14.TableOne", spec := "tableOne", inPlace := ["internal/abi.NoEscape"], unfollowed := true, recurses := true, named := ["internal/strconv.uint64pow10", "math/bits.deBruijn32tab", "math/bits.deBruijn64tab"], plainKeys := false, apart := false, laid := [("math/bits.deBruijn32tab", laid_math_bits_deBruijn32tab), ("math/bits.deBruijn64tab", laid_math_bits_deBruijn64tab), ("internal/strconv.uint64pow10", laid_internal_strconv_uint64pow10)], narrowed := true }
def TableOneUptoSaid : Prop := tableOneUptoRow.holds Tryd.pinned (OpenSpec.upto tableOneSpec)

/-- 'foyerlaw14.TableLeaves', WHERE WHAT IT READS IS OF BULK AT MOST 1048576: true; the input reads as it did. -/
def tableLeavesUptoRow : OpenClaim := { program := "ytllbabjgpdmblaadoor", sum := "579987a5dfa369041500aa38b6c5a4131455eea88ebf088448063d8e898811dd", func := "foyer/foyerlaw14.TableLeaves", spec := "tableLeaves", inPlace := ["internal/abi.NoEscape"], unfollowed := true, recurses := true, named := ["internal/strconv.uint64pow10", "math/bits.deBruijn32tab", "math/bits.deBruijn64tab"], plainKeys := false, apart := false, laid := [("math/bits.deBruijn32tab", laid_math_bits_deBruijn32tab), ("math/bits.deBruijn64tab", laid_math_bits_deBruijn64tab), ("internal/strconv.uint64pow10", laid_internal_strconv_uint64pow10)], narrowed := true }
def TableLeavesUptoSaid : Prop := tableLeavesUptoRow.holds Tryd.pinned (OpenSpec.upto tableLeavesSpec)

/-- 'foyerlaw14.TableAsked', WHERE WHAT IT READS IS OF BULK AT MOST 1048576: true; the input reads as it did. -/
def tableAskedUptoRow : OpenClaim := { program := "ytllbabjgpdmblaadoor", sum := "579987a5dfa369041500aa38b6c5a4131455eea88ebf088448063d8e898811dd", func := "foyer/foyerlaw14.TableAsked", spec := "tableAsked", inPlace := ["internal/abi.NoEscape"], unfollowed := true, recurses := true, named := ["internal/strconv.uint64pow10", "math/bits.deBruijn32tab", "math/bits.deBruijn64tab"], plainKeys := false, apart := false, laid := [("math/bits.deBruijn32tab", laid_math_bits_deBruijn32tab), ("math/bits.deBruijn64tab", laid_math_bits_deBruijn64tab), ("internal/strconv.uint64pow10", laid_internal_strconv_uint64pow10)], narrowed := true }
def TableAskedUptoSaid : Prop := tableAskedUptoRow.holds Tryd.pinned (OpenSpec.upto tableAskedSpec)

/-- 'foyerlaw14.TableOthers', WHERE WHAT IT READS IS OF BULK AT MOST 1048576: true; the input reads as it did. -/
def tableOthersUptoRow : OpenClaim := { program := "ytllbabjgpdmblaadoor", sum := "579987a5dfa369041500aa38b6c5a4131455eea88ebf088448063d8e898811dd", func := "foyer/foyerlaw14.TableOthers", spec := "tableOthers", inPlace := ["internal/abi.NoEscape"], unfollowed := true, recurses := true, named := ["internal/strconv.uint64pow10", "math/bits.deBruijn32tab", "math/bits.deBruijn64tab"], plainKeys := false, apart := false, laid := [("math/bits.deBruijn32tab", laid_math_bits_deBruijn32tab), ("math/bits.deBruijn64tab", laid_math_bits_deBruijn64tab), ("internal/strconv.uint64pow10", laid_internal_strconv_uint64pow10)], narrowed := true }
def TableOthersUptoSaid : Prop := tableOthersUptoRow.holds Tryd.pinned (OpenSpec.upto tableOthersSpec)

/-- 'foyerlaw15.VerifyCompiler', WHERE WHAT IT READS IS OF BULK AT MOST 1048576: true; the input reads as it did. -/
def verifyCompilerUptoRow : OpenClaim := { program := "ytllbabjgpdmblaadoor", sum := "579987a5dfa369041500aa38b6c5a4131455eea88ebf088448063d8e898811dd", func := "foyer/foyerlaw15.VerifyCompiler", spec := "verifyCompiler", inPlace := ["internal/abi.NoEscape"], unfollowed := true, recurses := true, named := ["internal/strconv.uint64pow10", "math/bits.deBruijn32tab", "math/bits.deBruijn64tab"], plainKeys := false, apart := false, laid := [("math/bits.deBruijn32tab", laid_math_bits_deBruijn32tab), ("math/bits.deBruijn64tab", laid_math_bits_deBruijn64tab), ("internal/strconv.uint64pow10", laid_internal_strconv_uint64pow10)], narrowed := true }
def VerifyCompilerUptoSaid : Prop := verifyCompilerUptoRow.holds Tryd.pinned (OpenSpec.upto verifyCompilerSpec)

/-- 'foyerlaw15.VerifyChanges', WHERE WHAT IT READS IS OF BULK AT MOST 1048576: true; the input reads as it did. -/
def verifyChangesUptoRow : OpenClaim := { program := "ytllbabjgpdmblaadoor", sum := "579987a5dfa369041500aa38b6c5a4131455eea88ebf088448063d8e898811dd", func := "foyer/foyerlaw15.VerifyChanges", spec := "verifyChanges", inPlace := ["internal/abi.NoEscape"], unfollowed := true, recurses := true, named := ["internal/strconv.uint64pow10", "math/bits.deBruijn32tab", "math/bits.deBruijn64tab"], plainKeys := false, apart := false, laid := [("math/bits.deBruijn32tab", laid_math_bits_deBruijn32tab), ("math/bits.deBruijn64tab", laid_math_bits_deBruijn64tab), ("internal/strconv.uint64pow10", laid_internal_strconv_uint64pow10)], narrowed := true }
def VerifyChangesUptoSaid : Prop := verifyChangesUptoRow.holds Tryd.pinned (OpenSpec.upto verifyChangesSpec)

end Rows
end Go.Proofs.YtllbabjgpdmblaaDoor
