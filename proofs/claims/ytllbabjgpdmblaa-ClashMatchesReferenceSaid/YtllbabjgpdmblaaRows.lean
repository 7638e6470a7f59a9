/-
  No cell of these rows narrows 'for every input' (looked for: loops, veiled, ifaces, maps, wideKeys, modest, calm, conditions, laid).
  DERIVED. THE GIVEN ROWS OF THIS SEAT. 6 by the template 'for every input the law returns true; each argument reads behind the call as it read before'; 0 by the template 'total and deterministic' (their statements: YtllbabjgpdmblaaTotals.lean).
  GIVEN WITH THE SEED: the statements are not yours to turn. If you find one false, say at which input.
  Laid BY PROGRAM, IN A SANDBOX (cutbox-rows.mjs): the forced cells as the released guide's own fill.sh prints them over the translation 8de9e1c321ab8cff… (all of the seat's roots in one cut). By AI agents, Wed Nov 11 2026. No macro, syntax, notation, axiom, sorry.
-/
import Derived.Test.YtllbabjgpdmblaaChecked
import GoSem.Claim
import GoSem.ClaimJoined
import GoSem.ClaimMapViews
import Derived.JoinedTies
import Derived.KernelRfl
namespace Go.Proofs.Ytllbabjgpdmblaa
/- THE CELL 'sum', in the pinned program and in every row, IS THE sha256 OF THE DUMP (.gsa) THAT YtllbabjgpdmblaaProg.lean LOADS. Nothing in Lean hashes anything: it is a label: what it is worth is what the hold of that sum in a sandbox is worth. -/
noncomputable def Try.pinned : Pinned := { name := "ytllbabjgpdmblaa", sum := "8de9e1c321ab8cff8f98927be924620806e42a666662cd12435e9eab97570eec", checked := Try.checked }
namespace Rows
def none {H : Type} : Left H := { results := [], args := [] }

/-- 'foyerlaw16.ClashMatchesReference': WHATEVER THE INPUT: true; the input reads as it did. -/
def clashMatchesReferenceSpec : ChangeSpec := { name := "clashMatchesReference", fn := fun _ => fun
  | [d] => { results := [.lit (.bool true)], args := [d] }
  | _ => none }
def clashMatchesReferenceRow : OpenClaim := { program := "ytllbabjgpdmblaa", sum := "8de9e1c321ab8cff8f98927be924620806e42a666662cd12435e9eab97570eec", func := "foyer/foyerlaw16.ClashMatchesReference", spec := "clashMatchesReference", unfollowed := true, recurses := true, apart := false }
def ClashMatchesReferenceSaid : Prop := clashMatchesReferenceRow.holds Try.pinned (OpenSpec.ofChange clashMatchesReferenceSpec)

/-- ITS FALSE NEIGHBOUR: 'it returns false'. Refute it at one input. -/
def clashMatchesReferenceWrong : ChangeSpec := { name := "clashMatchesReference", fn := fun _ => fun
  | [d] => { results := [.lit (.bool false)], args := [d] }
  | _ => none }
def ClashMatchesReferenceWrongFalsely : Prop := clashMatchesReferenceRow.holds Try.pinned (OpenSpec.ofChange clashMatchesReferenceWrong)

/-- 'foyerlaw16.ClashShown': WHATEVER THE INPUT: true; the input reads as it did. -/
def clashShownSpec : ChangeSpec := { name := "clashShown", fn := fun _ => fun
  | [d1, d2] => { results := [.lit (.bool true)], args := [d1, d2] }
  | _ => none }
def clashShownRow : OpenClaim := { program := "ytllbabjgpdmblaa", sum := "8de9e1c321ab8cff8f98927be924620806e42a666662cd12435e9eab97570eec", func := "foyer/foyerlaw16.ClashShown", spec := "clashShown", unfollowed := true, recurses := true, apart := false }
def ClashShownSaid : Prop := clashShownRow.holds Try.pinned (OpenSpec.ofChange clashShownSpec)

/-- ITS FALSE NEIGHBOUR: 'it returns false'. Refute it at one input. -/
def clashShownWrong : ChangeSpec := { name := "clashShown", fn := fun _ => fun
  | [d1, d2] => { results := [.lit (.bool false)], args := [d1, d2] }
  | _ => none }
def ClashShownWrongFalsely : Prop := clashShownRow.holds Try.pinned (OpenSpec.ofChange clashShownWrong)

/-- 'foyerlaw16.ClashMisses': WHATEVER THE INPUT: true; the input reads as it did. -/
def clashMissesSpec : ChangeSpec := { name := "clashMisses", fn := fun _ => fun
  | [d1, d2] => { results := [.lit (.bool true)], args := [d1, d2] }
  | _ => none }
def clashMissesRow : OpenClaim := { program := "ytllbabjgpdmblaa", sum := "8de9e1c321ab8cff8f98927be924620806e42a666662cd12435e9eab97570eec", func := "foyer/foyerlaw16.ClashMisses", spec := "clashMisses", unfollowed := true, recurses := true, apart := false }
def ClashMissesSaid : Prop := clashMissesRow.holds Try.pinned (OpenSpec.ofChange clashMissesSpec)

/-- ITS FALSE NEIGHBOUR: 'it returns false'. Refute it at one input. -/
def clashMissesWrong : ChangeSpec := { name := "clashMisses", fn := fun _ => fun
  | [d1, d2] => { results := [.lit (.bool false)], args := [d1, d2] }
  | _ => none }
def ClashMissesWrongFalsely : Prop := clashMissesRow.holds Try.pinned (OpenSpec.ofChange clashMissesWrong)

/-- 'foyerlaw16.ClashCopies': WHATEVER THE INPUT: true; the input reads as it did. -/
def clashCopiesSpec : ChangeSpec := { name := "clashCopies", fn := fun _ => fun
  | [d1, d2, d3] => { results := [.lit (.bool true)], args := [d1, d2, d3] }
  | _ => none }
def clashCopiesRow : OpenClaim := { program := "ytllbabjgpdmblaa", sum := "8de9e1c321ab8cff8f98927be924620806e42a666662cd12435e9eab97570eec", func := "foyer/foyerlaw16.ClashCopies", spec := "clashCopies", unfollowed := true, recurses := true, apart := false }
def ClashCopiesSaid : Prop := clashCopiesRow.holds Try.pinned (OpenSpec.ofChange clashCopiesSpec)

/-- ITS FALSE NEIGHBOUR: 'it returns false'. Refute it at one input. -/
def clashCopiesWrong : ChangeSpec := { name := "clashCopies", fn := fun _ => fun
  | [d1, d2, d3] => { results := [.lit (.bool false)], args := [d1, d2, d3] }
  | _ => none }
def ClashCopiesWrongFalsely : Prop := clashCopiesRow.holds Try.pinned (OpenSpec.ofChange clashCopiesWrong)

/-- 'foyerlaw16.ClashZones': WHATEVER THE INPUT: true; the input reads as it did. -/
def clashZonesSpec : ChangeSpec := { name := "clashZones", fn := fun _ => fun
  | [d] => { results := [.lit (.bool true)], args := [d] }
  | _ => none }
def clashZonesRow : OpenClaim := { program := "ytllbabjgpdmblaa", sum := "8de9e1c321ab8cff8f98927be924620806e42a666662cd12435e9eab97570eec", func := "foyer/foyerlaw16.ClashZones", spec := "clashZones", unfollowed := true, recurses := true, apart := false }
def ClashZonesSaid : Prop := clashZonesRow.holds Try.pinned (OpenSpec.ofChange clashZonesSpec)

/-- ITS FALSE NEIGHBOUR: 'it returns false'. Refute it at one input. -/
def clashZonesWrong : ChangeSpec := { name := "clashZones", fn := fun _ => fun
  | [d] => { results := [.lit (.bool false)], args := [d] }
  | _ => none }
def ClashZonesWrongFalsely : Prop := clashZonesRow.holds Try.pinned (OpenSpec.ofChange clashZonesWrong)

/-- 'foyerlaw16.ClashLeaves': WHATEVER THE INPUT: true; the input reads as it did. -/
def clashLeavesSpec : ChangeSpec := { name := "clashLeaves", fn := fun _ => fun
  | [d1, d2, d3] => { results := [.lit (.bool true)], args := [d1, d2, d3] }
  | _ => none }
def clashLeavesRow : OpenClaim := { program := "ytllbabjgpdmblaa", sum := "8de9e1c321ab8cff8f98927be924620806e42a666662cd12435e9eab97570eec", func := "foyer/foyerlaw16.ClashLeaves", spec := "clashLeaves", unfollowed := true, recurses := true, apart := false }
def ClashLeavesSaid : Prop := clashLeavesRow.holds Try.pinned (OpenSpec.ofChange clashLeavesSpec)

/-- ITS FALSE NEIGHBOUR: 'it returns false'. Refute it at one input. -/
def clashLeavesWrong : ChangeSpec := { name := "clashLeaves", fn := fun _ => fun
  | [d1, d2, d3] => { results := [.lit (.bool false)], args := [d1, d2, d3] }
  | _ => none }
def ClashLeavesWrongFalsely : Prop := clashLeavesRow.holds Try.pinned (OpenSpec.ofChange clashLeavesWrong)

/- THE SECOND FORM. 'bulk': how many values and letters a reading holds, each counted each time it is reached (what is shared counts as often as it is met; a slice's spare places count too). A statement '..UptoSaid' is the law's where the arguments, and the package variables that the reading takes, are together of bulk at most 1048576: NARROWER than '..Said'. Prove '..Said' where nothing that the law and all that it calls make is longer than what came in: it says more and counts as full. Else prove '..UptoSaid'. A law counts once. -/
mutual
def uptoBulk {H : Type} : DataW H → Nat
  | .lit (.string bytes) => bytes.length + 1
  | .lit _ => 1
  | .nil => 1
  | .ptr d => uptoBulk d + 1
  | .slice elems spare => uptoBulkAll elems + uptoBulkAll spare + 1
  | .agg parts => uptoBulkAll parts + 1
  | .iface _ d => uptoBulk d + 1
  | .map entries => uptoBulkEntries entries + 1
  | .held _ => 1
def uptoBulkAll {H : Type} : List (DataW H) → Nat
  | [] => 0
  | d :: r => uptoBulk d + uptoBulkAll r
def uptoBulkEntries {H : Type} : List (Lit × DataW H) → Nat
  | [] => 0
  | x :: r => uptoBulkEntry x + uptoBulkEntries r
def uptoBulkEntry {H : Type} : Lit × DataW H → Nat
  | (.string bytes, d) => bytes.length + uptoBulk d + 1
  | (_, d) => uptoBulk d + 1
 end
def uptoSmall : (H : Type) → List (DataW H) → Bool := fun _ ds => decide (uptoBulkAll ds ≤ 1048576)
def OpenSpec.upto (s : _root_.Go.ChangeSpec) : _root_.Go.OpenSpec := { _root_.Go.OpenSpec.ofChange s with cond := some uptoSmall }

/-- 'foyerlaw16.ClashMatchesReference', WHERE WHAT IT READS IS OF BULK AT MOST 1048576: true; the input reads as it did. -/
def clashMatchesReferenceUptoRow : OpenClaim := { program := "ytllbabjgpdmblaa", sum := "8de9e1c321ab8cff8f98927be924620806e42a666662cd12435e9eab97570eec", func := "foyer/foyerlaw16.ClashMatchesReference", spec := "clashMatchesReference", unfollowed := true, recurses := true, apart := false, narrowed := true }
def ClashMatchesReferenceUptoSaid : Prop := clashMatchesReferenceUptoRow.holds Try.pinned (OpenSpec.upto clashMatchesReferenceSpec)

/-- 'foyerlaw16.ClashShown', WHERE WHAT IT READS IS OF BULK AT MOST 1048576: true; the input reads as it did. -/
def clashShownUptoRow : OpenClaim := { program := "ytllbabjgpdmblaa", sum := "8de9e1c321ab8cff8f98927be924620806e42a666662cd12435e9eab97570eec", func := "foyer/foyerlaw16.ClashShown", spec := "clashShown", unfollowed := true, recurses := true, apart := false, narrowed := true }
def ClashShownUptoSaid : Prop := clashShownUptoRow.holds Try.pinned (OpenSpec.upto clashShownSpec)

/-- 'foyerlaw16.ClashMisses', WHERE WHAT IT READS IS OF BULK AT MOST 1048576: true; the input reads as it did. -/
def clashMissesUptoRow : OpenClaim := { program := "ytllbabjgpdmblaa", sum := "8de9e1c321ab8cff8f98927be924620806e42a666662cd12435e9eab97570eec", func := "foyer/foyerlaw16.ClashMisses", spec := "clashMisses", unfollowed := true, recurses := true, apart := false, narrowed := true }
def ClashMissesUptoSaid : Prop := clashMissesUptoRow.holds Try.pinned (OpenSpec.upto clashMissesSpec)

/-- 'foyerlaw16.ClashCopies', WHERE WHAT IT READS IS OF BULK AT MOST 1048576: true; the input reads as it did. -/
def clashCopiesUptoRow : OpenClaim := { program := "ytllbabjgpdmblaa", sum := "8de9e1c321ab8cff8f98927be924620806e42a666662cd12435e9eab97570eec", func := "foyer/foyerlaw16.ClashCopies", spec := "clashCopies", unfollowed := true, recurses := true, apart := false, narrowed := true }
def ClashCopiesUptoSaid : Prop := clashCopiesUptoRow.holds Try.pinned (OpenSpec.upto clashCopiesSpec)

/-- 'foyerlaw16.ClashZones', WHERE WHAT IT READS IS OF BULK AT MOST 1048576: true; the input reads as it did. -/
def clashZonesUptoRow : OpenClaim := { program := "ytllbabjgpdmblaa", sum := "8de9e1c321ab8cff8f98927be924620806e42a666662cd12435e9eab97570eec", func := "foyer/foyerlaw16.ClashZones", spec := "clashZones", unfollowed := true, recurses := true, apart := false, narrowed := true }
def ClashZonesUptoSaid : Prop := clashZonesUptoRow.holds Try.pinned (OpenSpec.upto clashZonesSpec)

/-- 'foyerlaw16.ClashLeaves', WHERE WHAT IT READS IS OF BULK AT MOST 1048576: true; the input reads as it did. -/
def clashLeavesUptoRow : OpenClaim := { program := "ytllbabjgpdmblaa", sum := "8de9e1c321ab8cff8f98927be924620806e42a666662cd12435e9eab97570eec", func := "foyer/foyerlaw16.ClashLeaves", spec := "clashLeaves", unfollowed := true, recurses := true, apart := false, narrowed := true }
def ClashLeavesUptoSaid : Prop := clashLeavesUptoRow.holds Try.pinned (OpenSpec.upto clashLeavesSpec)

end Rows
end Go.Proofs.Ytllbabjgpdmblaa
