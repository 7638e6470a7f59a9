/-
  DERIVED. GIVEN WITH THE SEED: THE CARDS: each row of YtllbabjgpdmblaaGreatDoorRows.lean that lists a variable, with what it lists TIED to the program's text (the seventh form; the later family's looks); each row that meets fmt, with fmt's text TOLD by the authors' own Lean function (tested against real Go, not proved from fmt's source: count such statements apart). THE CARD IS WHAT COUNTS. Prove the row's statement (the work); the ties are given (YtllbabjgpdmblaaGreatDoorTie.lean); close each card by the builder's one call (the guide's Derived/Test/ToyasCard.lean, 'card_holds'). Laid BY PROGRAM, IN A SANDBOX (cutbox-door.mjs). By AI agents, Wed Nov 11 2026. No macro, syntax, notation, axiom, sorry.
-/
import Derived.Test.YtllbabjgpdmblaaGreatDoorRows
import GoSem.ClaimSeven
namespace Go.Proofs.YtllbabjgpdmblaaGreatDoor
namespace Rows

/-- THE TIED CARD OF 'foyerlaw15.VerifyMatchesReference'. -/
def verifyMatchesReferenceCard : Claim7 := { stood := { row := verifyMatchesReferenceRow, standIns := [], harness := (true, "c7e65e9f4ad510aa27500fcfe09e261117c4045c1b3bbdc9fde272e6ff10be7c"), looks := false }, kinds := [], alts := [], laidByText := true, laidKinds := [.data, .data, .data], laidTests := true, laidLooks := .later }
def VerifyMatchesReferenceCardSaid : Prop := Claim7.holds Tryz.pinned (.plain (OpenSpec.ofChange verifyMatchesReferenceSpec)) verifyMatchesReferenceCard

/-- THE TIED CARD OF 'foyerlaw14.TableMatchesReference'. -/
def tableMatchesReferenceCard : Claim7 := { stood := { row := tableMatchesReferenceRow, standIns := [], harness := (true, "c7e65e9f4ad510aa27500fcfe09e261117c4045c1b3bbdc9fde272e6ff10be7c"), looks := false }, kinds := [], alts := [], laidByText := true, laidKinds := [.data, .data, .data], laidTests := true, laidLooks := .later }
def TableMatchesReferenceCardSaid : Prop := Claim7.holds Tryz.pinned (.plain (OpenSpec.ofChange tableMatchesReferenceSpec)) tableMatchesReferenceCard

/-- THE SECOND FORM's CARD OF 'foyerlaw15.VerifyMatchesReference'. -/
def verifyMatchesReferenceUptoCard : Claim7 := { stood := { row := verifyMatchesReferenceUptoRow, standIns := [], harness := (true, "c7e65e9f4ad510aa27500fcfe09e261117c4045c1b3bbdc9fde272e6ff10be7c"), looks := false }, kinds := [], alts := [], laidByText := true, laidKinds := [.data, .data, .data], laidTests := true, laidLooks := .later }
def VerifyMatchesReferenceUptoCardSaid : Prop := Claim7.holds Tryz.pinned (.plain (OpenSpec.upto verifyMatchesReferenceSpec)) verifyMatchesReferenceUptoCard

/-- THE SECOND FORM's CARD OF 'foyerlaw14.TableMatchesReference'. -/
def tableMatchesReferenceUptoCard : Claim7 := { stood := { row := tableMatchesReferenceUptoRow, standIns := [], harness := (true, "c7e65e9f4ad510aa27500fcfe09e261117c4045c1b3bbdc9fde272e6ff10be7c"), looks := false }, kinds := [], alts := [], laidByText := true, laidKinds := [.data, .data, .data], laidTests := true, laidLooks := .later }
def TableMatchesReferenceUptoCardSaid : Prop := Claim7.holds Tryz.pinned (.plain (OpenSpec.upto tableMatchesReferenceSpec)) tableMatchesReferenceUptoCard
end Rows
end Go.Proofs.YtllbabjgpdmblaaGreatDoor
