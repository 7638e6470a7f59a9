/-
  DERIVED. GIVEN WITH THE SEED: THE CARDS: each row of YtlpempbeenpilaaGreatDoorRows.lean that lists a variable, with what it lists TIED to the program's text (the seventh form; the later family's looks); each row that meets fmt, with fmt's text TOLD by the authors' own Lean function (tested against real Go, not proved from fmt's source: count such statements apart). THE CARD IS WHAT COUNTS. Prove the row's statement (the work); the ties are given (YtlpempbeenpilaaGreatDoorTie.lean); close each card by the builder's one call (the guide's Derived/Test/ToyasCard.lean, 'card_holds'). Laid BY PROGRAM, IN A SANDBOX (cutbox-door.mjs). By AI agents, Wed Nov 11 2026. No macro, syntax, notation, axiom, sorry.
-/
import Derived.Test.YtlpempbeenpilaaGreatDoorRows
import GoSem.ClaimSeven
namespace Go.Proofs.YtlpempbeenpilaaGreatDoor
namespace Rows

/-- THE TIED CARD OF 'foyerlaw32.RegistryMatchesReference'. -/
def registryMatchesReferenceCard : Claim7 := { stood := { row := registryMatchesReferenceRow, standIns := [], harness := (true, "a5bbd7f250483e9d9fc61a96c4220418790858106ee0109122d95cc32f565efa"), looks := false }, kinds := [], alts := [], laidByText := true, laidKinds := [.data, .data, .data, .data, .data, .pinned], laidTests := true, laidLooks := .later }
def RegistryMatchesReferenceCardSaid : Prop := Claim7.holds Tryz.pinned (.plain (OpenSpec.ofChange registryMatchesReferenceSpec)) registryMatchesReferenceCard

/-- THE TIED CARD OF 'foyerlaw32.RegistryOnes'. -/
def registryOnesCard : Claim7 := { stood := { row := registryOnesRow, standIns := [], harness := (true, "a5bbd7f250483e9d9fc61a96c4220418790858106ee0109122d95cc32f565efa"), looks := false }, kinds := [], alts := [], laidByText := true, laidKinds := [.data, .data, .data, .data, .data, .pinned], laidTests := true, laidLooks := .later }
def RegistryOnesCardSaid : Prop := Claim7.holds Tryz.pinned (.plain (OpenSpec.ofChange registryOnesSpec)) registryOnesCard

/-- THE TIED CARD OF 'foyerlaw32.RegistryOwner'. -/
def registryOwnerCard : Claim7 := { stood := { row := registryOwnerRow, standIns := [], harness := (true, "a5bbd7f250483e9d9fc61a96c4220418790858106ee0109122d95cc32f565efa"), looks := false }, kinds := [], alts := [], laidByText := true, laidKinds := [.data, .data, .data, .data, .data, .pinned], laidTests := true, laidLooks := .later }
def RegistryOwnerCardSaid : Prop := Claim7.holds Tryz.pinned (.plain (OpenSpec.ofChange registryOwnerSpec)) registryOwnerCard

/-- THE TIED CARD OF 'foyerlaw32.RegistryMoves'. -/
def registryMovesCard : Claim7 := { stood := { row := registryMovesRow, standIns := [], harness := (true, "a5bbd7f250483e9d9fc61a96c4220418790858106ee0109122d95cc32f565efa"), looks := false }, kinds := [], alts := [], laidByText := true, laidKinds := [.data, .data, .data, .data, .data, .pinned], laidTests := true, laidLooks := .later }
def RegistryMovesCardSaid : Prop := Claim7.holds Tryz.pinned (.plain (OpenSpec.ofChange registryMovesSpec)) registryMovesCard

/-- THE TIED CARD OF 'foyerlaw32.RegistryRefuses'. -/
def registryRefusesCard : Claim7 := { stood := { row := registryRefusesRow, standIns := [], harness := (true, "a5bbd7f250483e9d9fc61a96c4220418790858106ee0109122d95cc32f565efa"), looks := false }, kinds := [], alts := [], laidByText := true, laidKinds := [.data, .data, .data, .data, .data, .pinned], laidTests := true, laidLooks := .later }
def RegistryRefusesCardSaid : Prop := Claim7.holds Tryz.pinned (.plain (OpenSpec.ofChange registryRefusesSpec)) registryRefusesCard

/-- THE TIED CARD OF 'foyerlaw32.RegistryChains'. -/
def registryChainsCard : Claim7 := { stood := { row := registryChainsRow, standIns := [], harness := (true, "a5bbd7f250483e9d9fc61a96c4220418790858106ee0109122d95cc32f565efa"), looks := false }, kinds := [], alts := [], laidByText := true, laidKinds := [.data, .data, .data, .data, .data, .pinned], laidTests := true, laidLooks := .later }
def RegistryChainsCardSaid : Prop := Claim7.holds Tryz.pinned (.plain (OpenSpec.ofChange registryChainsSpec)) registryChainsCard

/-- THE SECOND FORM's CARD OF 'foyerlaw32.RegistryMatchesReference'. -/
def registryMatchesReferenceUptoCard : Claim7 := { stood := { row := registryMatchesReferenceUptoRow, standIns := [], harness := (true, "a5bbd7f250483e9d9fc61a96c4220418790858106ee0109122d95cc32f565efa"), looks := false }, kinds := [], alts := [], laidByText := true, laidKinds := [.data, .data, .data, .data, .data, .pinned], laidTests := true, laidLooks := .later }
def RegistryMatchesReferenceUptoCardSaid : Prop := Claim7.holds Tryz.pinned (.plain (OpenSpec.upto registryMatchesReferenceSpec)) registryMatchesReferenceUptoCard

/-- THE SECOND FORM's CARD OF 'foyerlaw32.RegistryOnes'. -/
def registryOnesUptoCard : Claim7 := { stood := { row := registryOnesUptoRow, standIns := [], harness := (true, "a5bbd7f250483e9d9fc61a96c4220418790858106ee0109122d95cc32f565efa"), looks := false }, kinds := [], alts := [], laidByText := true, laidKinds := [.data, .data, .data, .data, .data, .pinned], laidTests := true, laidLooks := .later }
def RegistryOnesUptoCardSaid : Prop := Claim7.holds Tryz.pinned (.plain (OpenSpec.upto registryOnesSpec)) registryOnesUptoCard

/-- THE SECOND FORM's CARD OF 'foyerlaw32.RegistryOwner'. -/
def registryOwnerUptoCard : Claim7 := { stood := { row := registryOwnerUptoRow, standIns := [], harness := (true, "a5bbd7f250483e9d9fc61a96c4220418790858106ee0109122d95cc32f565efa"), looks := false }, kinds := [], alts := [], laidByText := true, laidKinds := [.data, .data, .data, .data, .data, .pinned], laidTests := true, laidLooks := .later }
def RegistryOwnerUptoCardSaid : Prop := Claim7.holds Tryz.pinned (.plain (OpenSpec.upto registryOwnerSpec)) registryOwnerUptoCard

/-- THE SECOND FORM's CARD OF 'foyerlaw32.RegistryMoves'. -/
def registryMovesUptoCard : Claim7 := { stood := { row := registryMovesUptoRow, standIns := [], harness := (true, "a5bbd7f250483e9d9fc61a96c4220418790858106ee0109122d95cc32f565efa"), looks := false }, kinds := [], alts := [], laidByText := true, laidKinds := [.data, .data, .data, .data, .data, .pinned], laidTests := true, laidLooks := .later }
def RegistryMovesUptoCardSaid : Prop := Claim7.holds Tryz.pinned (.plain (OpenSpec.upto registryMovesSpec)) registryMovesUptoCard

/-- THE SECOND FORM's CARD OF 'foyerlaw32.RegistryRefuses'. -/
def registryRefusesUptoCard : Claim7 := { stood := { row := registryRefusesUptoRow, standIns := [], harness := (true, "a5bbd7f250483e9d9fc61a96c4220418790858106ee0109122d95cc32f565efa"), looks := false }, kinds := [], alts := [], laidByText := true, laidKinds := [.data, .data, .data, .data, .data, .pinned], laidTests := true, laidLooks := .later }
def RegistryRefusesUptoCardSaid : Prop := Claim7.holds Tryz.pinned (.plain (OpenSpec.upto registryRefusesSpec)) registryRefusesUptoCard

/-- THE SECOND FORM's CARD OF 'foyerlaw32.RegistryChains'. -/
def registryChainsUptoCard : Claim7 := { stood := { row := registryChainsUptoRow, standIns := [], harness := (true, "a5bbd7f250483e9d9fc61a96c4220418790858106ee0109122d95cc32f565efa"), looks := false }, kinds := [], alts := [], laidByText := true, laidKinds := [.data, .data, .data, .data, .data, .pinned], laidTests := true, laidLooks := .later }
def RegistryChainsUptoCardSaid : Prop := Claim7.holds Tryz.pinned (.plain (OpenSpec.upto registryChainsSpec)) registryChainsUptoCard
end Rows
end Go.Proofs.YtlpempbeenpilaaGreatDoor
