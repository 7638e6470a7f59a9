/-
  DERIVED. GIVEN WITH THE SEED: THE CARDS: each row of YtllbabjgpdmblaaDoorRows.lean that lists a variable, with what it lists TIED to the program's text (the seventh form; the later family's looks); each row that meets fmt, with fmt's text TOLD by the authors' own Lean function (tested against real Go, not proved from fmt's source: count such statements apart). THE CARD IS WHAT COUNTS. Prove the row's statement (the work); the ties are given (YtllbabjgpdmblaaDoorTie.lean); close each card by the builder's one call (the guide's Derived/Test/ToyasCard.lean, 'card_holds'). Laid BY PROGRAM, IN A SANDBOX (cutbox-door.mjs). By AI agents, Wed Nov 11 2026. No macro, syntax, notation, axiom, sorry.
-/
import Derived.Test.YtllbabjgpdmblaaDoorRows
import GoSem.ClaimSeven
namespace Go.Proofs.YtllbabjgpdmblaaDoor
namespace Rows

/-- THE TIED CARD OF 'foyerlaw15.VerifyRules'. -/
def verifyRulesCard : Claim7 := { stood := { row := verifyRulesRow, standIns := [], harness := (true, "053e71259e4b2c2cc2c1903158fa8633b407cf24193b9c161dd1826495482080"), looks := false }, kinds := [], alts := [], laidByText := true, laidKinds := [.data, .data, .data], laidTests := true, laidLooks := .later }
def VerifyRulesCardSaid : Prop := Claim7.holds Tryd.pinned (.plain (OpenSpec.ofChange verifyRulesSpec)) verifyRulesCard

/-- THE TIED CARD OF 'foyerlaw15.VerifyInvalid'. -/
def verifyInvalidCard : Claim7 := { stood := { row := verifyInvalidRow, standIns := [], harness := (true, "053e71259e4b2c2cc2c1903158fa8633b407cf24193b9c161dd1826495482080"), looks := false }, kinds := [], alts := [], laidByText := true, laidKinds := [.data, .data, .data], laidTests := true, laidLooks := .later }
def VerifyInvalidCardSaid : Prop := Claim7.holds Tryd.pinned (.plain (OpenSpec.ofChange verifyInvalidSpec)) verifyInvalidCard

/-- THE TIED CARD OF 'foyerlaw15.VerifySound'. -/
def verifySoundCard : Claim7 := { stood := { row := verifySoundRow, standIns := [], harness := (true, "053e71259e4b2c2cc2c1903158fa8633b407cf24193b9c161dd1826495482080"), looks := false }, kinds := [], alts := [], laidByText := true, laidKinds := [.data, .data, .data], laidTests := true, laidLooks := .later }
def VerifySoundCardSaid : Prop := Claim7.holds Tryd.pinned (.plain (OpenSpec.ofChange verifySoundSpec)) verifySoundCard

/-- THE TIED CARD OF 'foyerlaw14.TableMeans'. -/
def tableMeansCard : Claim7 := { stood := { row := tableMeansRow, standIns := [], harness := (true, "053e71259e4b2c2cc2c1903158fa8633b407cf24193b9c161dd1826495482080"), looks := false }, kinds := [], alts := [], laidByText := true, laidKinds := [.data, .data, .data], laidTests := true, laidLooks := .later }
def TableMeansCardSaid : Prop := Claim7.holds Tryd.pinned (.plain (OpenSpec.ofChange tableMeansSpec)) tableMeansCard

/-- THE TIED CARD OF 'foyerlaw14.TableOne'. -/
def tableOneCard : Claim7 := { stood := { row := tableOneRow, standIns := [], harness := (true, "053e71259e4b2c2cc2c1903158fa8633b407cf24193b9c161dd1826495482080"), looks := false }, kinds := [], alts := [], laidByText := true, laidKinds := [.data, .data, .data], laidTests := true, laidLooks := .later }
def TableOneCardSaid : Prop := Claim7.holds Tryd.pinned (.plain (OpenSpec.ofChange tableOneSpec)) tableOneCard

/-- THE TIED CARD OF 'foyerlaw14.TableLeaves'. -/
def tableLeavesCard : Claim7 := { stood := { row := tableLeavesRow, standIns := [], harness := (true, "053e71259e4b2c2cc2c1903158fa8633b407cf24193b9c161dd1826495482080"), looks := false }, kinds := [], alts := [], laidByText := true, laidKinds := [.data, .data, .data], laidTests := true, laidLooks := .later }
def TableLeavesCardSaid : Prop := Claim7.holds Tryd.pinned (.plain (OpenSpec.ofChange tableLeavesSpec)) tableLeavesCard

/-- THE TIED CARD OF 'foyerlaw14.TableAsked'. -/
def tableAskedCard : Claim7 := { stood := { row := tableAskedRow, standIns := [], harness := (true, "053e71259e4b2c2cc2c1903158fa8633b407cf24193b9c161dd1826495482080"), looks := false }, kinds := [], alts := [], laidByText := true, laidKinds := [.data, .data, .data], laidTests := true, laidLooks := .later }
def TableAskedCardSaid : Prop := Claim7.holds Tryd.pinned (.plain (OpenSpec.ofChange tableAskedSpec)) tableAskedCard

/-- THE TIED CARD OF 'foyerlaw14.TableOthers'. -/
def tableOthersCard : Claim7 := { stood := { row := tableOthersRow, standIns := [], harness := (true, "053e71259e4b2c2cc2c1903158fa8633b407cf24193b9c161dd1826495482080"), looks := false }, kinds := [], alts := [], laidByText := true, laidKinds := [.data, .data, .data], laidTests := true, laidLooks := .later }
def TableOthersCardSaid : Prop := Claim7.holds Tryd.pinned (.plain (OpenSpec.ofChange tableOthersSpec)) tableOthersCard

/-- THE TIED CARD OF 'foyerlaw15.VerifyCompiler'. -/
def verifyCompilerCard : Claim7 := { stood := { row := verifyCompilerRow, standIns := [], harness := (true, "053e71259e4b2c2cc2c1903158fa8633b407cf24193b9c161dd1826495482080"), looks := false }, kinds := [], alts := [], laidByText := true, laidKinds := [.data, .data, .data], laidTests := true, laidLooks := .later }
def VerifyCompilerCardSaid : Prop := Claim7.holds Tryd.pinned (.plain (OpenSpec.ofChange verifyCompilerSpec)) verifyCompilerCard

/-- THE TIED CARD OF 'foyerlaw15.VerifyChanges'. -/
def verifyChangesCard : Claim7 := { stood := { row := verifyChangesRow, standIns := [], harness := (true, "053e71259e4b2c2cc2c1903158fa8633b407cf24193b9c161dd1826495482080"), looks := false }, kinds := [], alts := [], laidByText := true, laidKinds := [.data, .data, .data], laidTests := true, laidLooks := .later }
def VerifyChangesCardSaid : Prop := Claim7.holds Tryd.pinned (.plain (OpenSpec.ofChange verifyChangesSpec)) verifyChangesCard

/-- THE SECOND FORM's CARD OF 'foyerlaw15.VerifyRules'. -/
def verifyRulesUptoCard : Claim7 := { stood := { row := verifyRulesUptoRow, standIns := [], harness := (true, "053e71259e4b2c2cc2c1903158fa8633b407cf24193b9c161dd1826495482080"), looks := false }, kinds := [], alts := [], laidByText := true, laidKinds := [.data, .data, .data], laidTests := true, laidLooks := .later }
def VerifyRulesUptoCardSaid : Prop := Claim7.holds Tryd.pinned (.plain (OpenSpec.upto verifyRulesSpec)) verifyRulesUptoCard

/-- THE SECOND FORM's CARD OF 'foyerlaw15.VerifyInvalid'. -/
def verifyInvalidUptoCard : Claim7 := { stood := { row := verifyInvalidUptoRow, standIns := [], harness := (true, "053e71259e4b2c2cc2c1903158fa8633b407cf24193b9c161dd1826495482080"), looks := false }, kinds := [], alts := [], laidByText := true, laidKinds := [.data, .data, .data], laidTests := true, laidLooks := .later }
def VerifyInvalidUptoCardSaid : Prop := Claim7.holds Tryd.pinned (.plain (OpenSpec.upto verifyInvalidSpec)) verifyInvalidUptoCard

/-- THE SECOND FORM's CARD OF 'foyerlaw15.VerifySound'. -/
def verifySoundUptoCard : Claim7 := { stood := { row := verifySoundUptoRow, standIns := [], harness := (true, "053e71259e4b2c2cc2c1903158fa8633b407cf24193b9c161dd1826495482080"), looks := false }, kinds := [], alts := [], laidByText := true, laidKinds := [.data, .data, .data], laidTests := true, laidLooks := .later }
def VerifySoundUptoCardSaid : Prop := Claim7.holds Tryd.pinned (.plain (OpenSpec.upto verifySoundSpec)) verifySoundUptoCard

/-- THE SECOND FORM's CARD OF 'foyerlaw14.TableMeans'. -/
def tableMeansUptoCard : Claim7 := { stood := { row := tableMeansUptoRow, standIns := [], harness := (true, "053e71259e4b2c2cc2c1903158fa8633b407cf24193b9c161dd1826495482080"), looks := false }, kinds := [], alts := [], laidByText := true, laidKinds := [.data, .data, .data], laidTests := true, laidLooks := .later }
def TableMeansUptoCardSaid : Prop := Claim7.holds Tryd.pinned (.plain (OpenSpec.upto tableMeansSpec)) tableMeansUptoCard

/-- THE SECOND FORM's CARD OF 'foyerlaw14.TableOne'. -/
def tableOneUptoCard : Claim7 := { stood := { row := tableOneUptoRow, standIns := [], harness := (true, "053e71259e4b2c2cc2c1903158fa8633b407cf24193b9c161dd1826495482080"), looks := false }, kinds := [], alts := [], laidByText := true, laidKinds := [.data, .data, .data], laidTests := true, laidLooks := .later }
def TableOneUptoCardSaid : Prop := Claim7.holds Tryd.pinned (.plain (OpenSpec.upto tableOneSpec)) tableOneUptoCard

/-- THE SECOND FORM's CARD OF 'foyerlaw14.TableLeaves'. -/
def tableLeavesUptoCard : Claim7 := { stood := { row := tableLeavesUptoRow, standIns := [], harness := (true, "053e71259e4b2c2cc2c1903158fa8633b407cf24193b9c161dd1826495482080"), looks := false }, kinds := [], alts := [], laidByText := true, laidKinds := [.data, .data, .data], laidTests := true, laidLooks := .later }
def TableLeavesUptoCardSaid : Prop := Claim7.holds Tryd.pinned (.plain (OpenSpec.upto tableLeavesSpec)) tableLeavesUptoCard

/-- THE SECOND FORM's CARD OF 'foyerlaw14.TableAsked'. -/
def tableAskedUptoCard : Claim7 := { stood := { row := tableAskedUptoRow, standIns := [], harness := (true, "053e71259e4b2c2cc2c1903158fa8633b407cf24193b9c161dd1826495482080"), looks := false }, kinds := [], alts := [], laidByText := true, laidKinds := [.data, .data, .data], laidTests := true, laidLooks := .later }
def TableAskedUptoCardSaid : Prop := Claim7.holds Tryd.pinned (.plain (OpenSpec.upto tableAskedSpec)) tableAskedUptoCard

/-- THE SECOND FORM's CARD OF 'foyerlaw14.TableOthers'. -/
def tableOthersUptoCard : Claim7 := { stood := { row := tableOthersUptoRow, standIns := [], harness := (true, "053e71259e4b2c2cc2c1903158fa8633b407cf24193b9c161dd1826495482080"), looks := false }, kinds := [], alts := [], laidByText := true, laidKinds := [.data, .data, .data], laidTests := true, laidLooks := .later }
def TableOthersUptoCardSaid : Prop := Claim7.holds Tryd.pinned (.plain (OpenSpec.upto tableOthersSpec)) tableOthersUptoCard

/-- THE SECOND FORM's CARD OF 'foyerlaw15.VerifyCompiler'. -/
def verifyCompilerUptoCard : Claim7 := { stood := { row := verifyCompilerUptoRow, standIns := [], harness := (true, "053e71259e4b2c2cc2c1903158fa8633b407cf24193b9c161dd1826495482080"), looks := false }, kinds := [], alts := [], laidByText := true, laidKinds := [.data, .data, .data], laidTests := true, laidLooks := .later }
def VerifyCompilerUptoCardSaid : Prop := Claim7.holds Tryd.pinned (.plain (OpenSpec.upto verifyCompilerSpec)) verifyCompilerUptoCard

/-- THE SECOND FORM's CARD OF 'foyerlaw15.VerifyChanges'. -/
def verifyChangesUptoCard : Claim7 := { stood := { row := verifyChangesUptoRow, standIns := [], harness := (true, "053e71259e4b2c2cc2c1903158fa8633b407cf24193b9c161dd1826495482080"), looks := false }, kinds := [], alts := [], laidByText := true, laidKinds := [.data, .data, .data], laidTests := true, laidLooks := .later }
def VerifyChangesUptoCardSaid : Prop := Claim7.holds Tryd.pinned (.plain (OpenSpec.upto verifyChangesSpec)) verifyChangesUptoCard
end Rows
end Go.Proofs.YtllbabjgpdmblaaDoor
