/-
  No cell of these rows narrows 'for every input' (looked for: loops, veiled, ifaces, maps, wideKeys, modest, calm, conditions, laid).
  DERIVED. THE GIVEN ROWS OF THIS SEAT. 7 by the template 'for every input the law returns true; each argument reads behind the call as it read before'; 0 by the template 'total and deterministic' (their statements: YtlahdopmiplnoaaTotals.lean).
  GIVEN WITH THE SEED: the statements are not yours to turn. If you find one false, say at which input.
  Laid BY PROGRAM, IN A SANDBOX (cutbox-rows.mjs): the forced cells as the released guide's own fill.sh prints them over the translation aba9c3be3247baa2… (all of the seat's roots in one cut). By AI agents, Wed Nov 11 2026. No macro, syntax, notation, axiom, sorry.
-/
import Derived.Test.YtlahdopmiplnoaaChecked
import GoSem.Claim
import GoSem.ClaimJoined
import GoSem.ClaimMapViews
import Derived.JoinedTies
import Derived.KernelRfl
namespace Go.Proofs.Ytlahdopmiplnoaa
/- THE CELL 'sum', in the pinned program and in every row, IS THE sha256 OF THE DUMP (.gsa) THAT YtlahdopmiplnoaaProg.lean LOADS. Nothing in Lean hashes anything: it is a label: what it is worth is what the hold of that sum in a sandbox is worth. -/
noncomputable def Try.pinned : Pinned := { name := "ytlahdopmiplnoaa", sum := "aba9c3be3247baa2fcd41bc1902998a4157e48ed5541a9a43959f8b8ce02c801", checked := Try.checked }
namespace Rows
def none {H : Type} : Left H := { results := [], args := [] }

/-- 'foyerlaw11.RunsMatchReference': WHATEVER THE INPUT: true; the input reads as it did. -/
def runsMatchReferenceSpec : ChangeSpec := { name := "runsMatchReference", fn := fun _ => fun
  | [d1, d2, d3] => { results := [.lit (.bool true)], args := [d1, d2, d3] }
  | _ => none }
def runsMatchReferenceRow : OpenClaim := { program := "ytlahdopmiplnoaa", sum := "aba9c3be3247baa2fcd41bc1902998a4157e48ed5541a9a43959f8b8ce02c801", func := "foyer/foyerlaw11.RunsMatchReference", spec := "runsMatchReference", unfollowed := true, recurses := true, apart := false }
def RunsMatchReferenceSaid : Prop := runsMatchReferenceRow.holds Try.pinned (OpenSpec.ofChange runsMatchReferenceSpec)

/-- ITS FALSE NEIGHBOUR: 'it returns false'. Refute it at one input. -/
def runsMatchReferenceWrong : ChangeSpec := { name := "runsMatchReference", fn := fun _ => fun
  | [d1, d2, d3] => { results := [.lit (.bool false)], args := [d1, d2, d3] }
  | _ => none }
def RunsMatchReferenceWrongFalsely : Prop := runsMatchReferenceRow.holds Try.pinned (OpenSpec.ofChange runsMatchReferenceWrong)

/-- 'foyerlaw11.RunsRows': WHATEVER THE INPUT: true; the input reads as it did. -/
def runsRowsSpec : ChangeSpec := { name := "runsRows", fn := fun _ => fun
  | [d] => { results := [.lit (.bool true)], args := [d] }
  | _ => none }
def runsRowsRow : OpenClaim := { program := "ytlahdopmiplnoaa", sum := "aba9c3be3247baa2fcd41bc1902998a4157e48ed5541a9a43959f8b8ce02c801", func := "foyer/foyerlaw11.RunsRows", spec := "runsRows", unfollowed := true, recurses := true, apart := false }
def RunsRowsSaid : Prop := runsRowsRow.holds Try.pinned (OpenSpec.ofChange runsRowsSpec)

/-- ITS FALSE NEIGHBOUR: 'it returns false'. Refute it at one input. -/
def runsRowsWrong : ChangeSpec := { name := "runsRows", fn := fun _ => fun
  | [d] => { results := [.lit (.bool false)], args := [d] }
  | _ => none }
def RunsRowsWrongFalsely : Prop := runsRowsRow.holds Try.pinned (OpenSpec.ofChange runsRowsWrong)

/-- 'foyerlaw11.RunsFree': WHATEVER THE INPUT: true; the input reads as it did. -/
def runsFreeSpec : ChangeSpec := { name := "runsFree", fn := fun _ => fun
  | [d1, d2] => { results := [.lit (.bool true)], args := [d1, d2] }
  | _ => none }
def runsFreeRow : OpenClaim := { program := "ytlahdopmiplnoaa", sum := "aba9c3be3247baa2fcd41bc1902998a4157e48ed5541a9a43959f8b8ce02c801", func := "foyer/foyerlaw11.RunsFree", spec := "runsFree", unfollowed := true, recurses := true, apart := false }
def RunsFreeSaid : Prop := runsFreeRow.holds Try.pinned (OpenSpec.ofChange runsFreeSpec)

/-- ITS FALSE NEIGHBOUR: 'it returns false'. Refute it at one input. -/
def runsFreeWrong : ChangeSpec := { name := "runsFree", fn := fun _ => fun
  | [d1, d2] => { results := [.lit (.bool false)], args := [d1, d2] }
  | _ => none }
def RunsFreeWrongFalsely : Prop := runsFreeRow.holds Try.pinned (OpenSpec.ofChange runsFreeWrong)

/-- 'foyerlaw11.RunsTogether': WHATEVER THE INPUT: true; the input reads as it did. -/
def runsTogetherSpec : ChangeSpec := { name := "runsTogether", fn := fun _ => fun
  | [d1, d2, d3, d4, d5, d6] => { results := [.lit (.bool true)], args := [d1, d2, d3, d4, d5, d6] }
  | _ => none }
def runsTogetherRow : OpenClaim := { program := "ytlahdopmiplnoaa", sum := "aba9c3be3247baa2fcd41bc1902998a4157e48ed5541a9a43959f8b8ce02c801", func := "foyer/foyerlaw11.RunsTogether", spec := "runsTogether", unfollowed := true, recurses := true, apart := false }
def RunsTogetherSaid : Prop := runsTogetherRow.holds Try.pinned (OpenSpec.ofChange runsTogetherSpec)

/-- ITS FALSE NEIGHBOUR: 'it returns false'. Refute it at one input. -/
def runsTogetherWrong : ChangeSpec := { name := "runsTogether", fn := fun _ => fun
  | [d1, d2, d3, d4, d5, d6] => { results := [.lit (.bool false)], args := [d1, d2, d3, d4, d5, d6] }
  | _ => none }
def RunsTogetherWrongFalsely : Prop := runsTogetherRow.holds Try.pinned (OpenSpec.ofChange runsTogetherWrong)

/-- 'foyerlaw11.RunsLeft': WHATEVER THE INPUT: true; the input reads as it did. -/
def runsLeftSpec : ChangeSpec := { name := "runsLeft", fn := fun _ => fun
  | [d1, d2, d3] => { results := [.lit (.bool true)], args := [d1, d2, d3] }
  | _ => none }
def runsLeftRow : OpenClaim := { program := "ytlahdopmiplnoaa", sum := "aba9c3be3247baa2fcd41bc1902998a4157e48ed5541a9a43959f8b8ce02c801", func := "foyer/foyerlaw11.RunsLeft", spec := "runsLeft", unfollowed := true, recurses := true, apart := false }
def RunsLeftSaid : Prop := runsLeftRow.holds Try.pinned (OpenSpec.ofChange runsLeftSpec)

/-- ITS FALSE NEIGHBOUR: 'it returns false'. Refute it at one input. -/
def runsLeftWrong : ChangeSpec := { name := "runsLeft", fn := fun _ => fun
  | [d1, d2, d3] => { results := [.lit (.bool false)], args := [d1, d2, d3] }
  | _ => none }
def RunsLeftWrongFalsely : Prop := runsLeftRow.holds Try.pinned (OpenSpec.ofChange runsLeftWrong)

/-- 'foyerlaw11.RunsWhole': WHATEVER THE INPUT: true; the input reads as it did. -/
def runsWholeSpec : ChangeSpec := { name := "runsWhole", fn := fun _ => fun
  | [d1, d2, d3, d4, d5] => { results := [.lit (.bool true)], args := [d1, d2, d3, d4, d5] }
  | _ => none }
def runsWholeRow : OpenClaim := { program := "ytlahdopmiplnoaa", sum := "aba9c3be3247baa2fcd41bc1902998a4157e48ed5541a9a43959f8b8ce02c801", func := "foyer/foyerlaw11.RunsWhole", spec := "runsWhole", unfollowed := true, recurses := true, apart := false }
def RunsWholeSaid : Prop := runsWholeRow.holds Try.pinned (OpenSpec.ofChange runsWholeSpec)

/-- ITS FALSE NEIGHBOUR: 'it returns false'. Refute it at one input. -/
def runsWholeWrong : ChangeSpec := { name := "runsWhole", fn := fun _ => fun
  | [d1, d2, d3, d4, d5] => { results := [.lit (.bool false)], args := [d1, d2, d3, d4, d5] }
  | _ => none }
def RunsWholeWrongFalsely : Prop := runsWholeRow.holds Try.pinned (OpenSpec.ofChange runsWholeWrong)

/-- 'foyerlaw11.RunsApart': WHATEVER THE INPUT: true; the input reads as it did. -/
def runsApartSpec : ChangeSpec := { name := "runsApart", fn := fun _ => fun
  | [d1, d2, d3, d4] => { results := [.lit (.bool true)], args := [d1, d2, d3, d4] }
  | _ => none }
def runsApartRow : OpenClaim := { program := "ytlahdopmiplnoaa", sum := "aba9c3be3247baa2fcd41bc1902998a4157e48ed5541a9a43959f8b8ce02c801", func := "foyer/foyerlaw11.RunsApart", spec := "runsApart", unfollowed := true, recurses := true, apart := false }
def RunsApartSaid : Prop := runsApartRow.holds Try.pinned (OpenSpec.ofChange runsApartSpec)

/-- ITS FALSE NEIGHBOUR: 'it returns false'. Refute it at one input. -/
def runsApartWrong : ChangeSpec := { name := "runsApart", fn := fun _ => fun
  | [d1, d2, d3, d4] => { results := [.lit (.bool false)], args := [d1, d2, d3, d4] }
  | _ => none }
def RunsApartWrongFalsely : Prop := runsApartRow.holds Try.pinned (OpenSpec.ofChange runsApartWrong)

/- THE SECOND FORM. 'bulk': how many values and letters a reading holds, each counted each time it is reached (what is shared counts as often as it is met; a slice's spare places count too). A statement '..UptoSaid' is the law's where the arguments, and the package variables that the reading takes, are together of bulk at most 1048576: NARROWER than '..Said'. Prove '..Said' where nothing that the law and all that it calls make is longer than what came in: it says more and counts as full. Else prove '..UptoSaid'. A law counts once. -/
mutual
def uptoBulk {H : Type} : DataW H → Nat
  | .lit (.string bytes) => bytes.length + 1
  | .lit _ => 1
  | .nil => 1
  | .ptr d => uptoBulk d + 1
  | .slice elems spare => uptoBulkAll elems + uptoBulkAll spare + 1
  | .agg parts => uptoBulkAll parts + 1
  | .iface _ d => uptoBulk d + 1
  | .map entries => uptoBulkEntries entries + 1
  | .held _ => 1
def uptoBulkAll {H : Type} : List (DataW H) → Nat
  | [] => 0
  | d :: r => uptoBulk d + uptoBulkAll r
def uptoBulkEntries {H : Type} : List (Lit × DataW H) → Nat
  | [] => 0
  | x :: r => uptoBulkEntry x + uptoBulkEntries r
def uptoBulkEntry {H : Type} : Lit × DataW H → Nat
  | (.string bytes, d) => bytes.length + uptoBulk d + 1
  | (_, d) => uptoBulk d + 1
 end
def uptoSmall : (H : Type) → List (DataW H) → Bool := fun _ ds => decide (uptoBulkAll ds ≤ 1048576)
def OpenSpec.upto (s : _root_.Go.ChangeSpec) : _root_.Go.OpenSpec := { _root_.Go.OpenSpec.ofChange s with cond := some uptoSmall }

/-- 'foyerlaw11.RunsMatchReference', WHERE WHAT IT READS IS OF BULK AT MOST 1048576: true; the input reads as it did. -/
def runsMatchReferenceUptoRow : OpenClaim := { program := "ytlahdopmiplnoaa", sum := "aba9c3be3247baa2fcd41bc1902998a4157e48ed5541a9a43959f8b8ce02c801", func := "foyer/foyerlaw11.RunsMatchReference", spec := "runsMatchReference", unfollowed := true, recurses := true, apart := false, narrowed := true }
def RunsMatchReferenceUptoSaid : Prop := runsMatchReferenceUptoRow.holds Try.pinned (OpenSpec.upto runsMatchReferenceSpec)

/-- 'foyerlaw11.RunsRows', WHERE WHAT IT READS IS OF BULK AT MOST 1048576: true; the input reads as it did. -/
def runsRowsUptoRow : OpenClaim := { program := "ytlahdopmiplnoaa", sum := "aba9c3be3247baa2fcd41bc1902998a4157e48ed5541a9a43959f8b8ce02c801", func := "foyer/foyerlaw11.RunsRows", spec := "runsRows", unfollowed := true, recurses := true, apart := false, narrowed := true }
def RunsRowsUptoSaid : Prop := runsRowsUptoRow.holds Try.pinned (OpenSpec.upto runsRowsSpec)

/-- 'foyerlaw11.RunsFree', WHERE WHAT IT READS IS OF BULK AT MOST 1048576: true; the input reads as it did. -/
def runsFreeUptoRow : OpenClaim := { program := "ytlahdopmiplnoaa", sum := "aba9c3be3247baa2fcd41bc1902998a4157e48ed5541a9a43959f8b8ce02c801", func := "foyer/foyerlaw11.RunsFree", spec := "runsFree", unfollowed := true, recurses := true, apart := false, narrowed := true }
def RunsFreeUptoSaid : Prop := runsFreeUptoRow.holds Try.pinned (OpenSpec.upto runsFreeSpec)

/-- 'foyerlaw11.RunsTogether', WHERE WHAT IT READS IS OF BULK AT MOST 1048576: true; the input reads as it did. -/
def runsTogetherUptoRow : OpenClaim := { program := "ytlahdopmiplnoaa", sum := "aba9c3be3247baa2fcd41bc1902998a4157e48ed5541a9a43959f8b8ce02c801", func := "foyer/foyerlaw11.RunsTogether", spec := "runsTogether", unfollowed := true, recurses := true, apart := false, narrowed := true }
def RunsTogetherUptoSaid : Prop := runsTogetherUptoRow.holds Try.pinned (OpenSpec.upto runsTogetherSpec)

/-- 'foyerlaw11.RunsLeft', WHERE WHAT IT READS IS OF BULK AT MOST 1048576: true; the input reads as it did. -/
def runsLeftUptoRow : OpenClaim := { program := "ytlahdopmiplnoaa", sum := "aba9c3be3247baa2fcd41bc1902998a4157e48ed5541a9a43959f8b8ce02c801", func := "foyer/foyerlaw11.RunsLeft", spec := "runsLeft", unfollowed := true, recurses := true, apart := false, narrowed := true }
def RunsLeftUptoSaid : Prop := runsLeftUptoRow.holds Try.pinned (OpenSpec.upto runsLeftSpec)

/-- 'foyerlaw11.RunsWhole', WHERE WHAT IT READS IS OF BULK AT MOST 1048576: true; the input reads as it did. -/
def runsWholeUptoRow : OpenClaim := { program := "ytlahdopmiplnoaa", sum := "aba9c3be3247baa2fcd41bc1902998a4157e48ed5541a9a43959f8b8ce02c801", func := "foyer/foyerlaw11.RunsWhole", spec := "runsWhole", unfollowed := true, recurses := true, apart := false, narrowed := true }
def RunsWholeUptoSaid : Prop := runsWholeUptoRow.holds Try.pinned (OpenSpec.upto runsWholeSpec)

/-- 'foyerlaw11.RunsApart', WHERE WHAT IT READS IS OF BULK AT MOST 1048576: true; the input reads as it did. -/
def runsApartUptoRow : OpenClaim := { program := "ytlahdopmiplnoaa", sum := "aba9c3be3247baa2fcd41bc1902998a4157e48ed5541a9a43959f8b8ce02c801", func := "foyer/foyerlaw11.RunsApart", spec := "runsApart", unfollowed := true, recurses := true, apart := false, narrowed := true }
def RunsApartUptoSaid : Prop := runsApartUptoRow.holds Try.pinned (OpenSpec.upto runsApartSpec)

end Rows
end Go.Proofs.Ytlahdopmiplnoaa
