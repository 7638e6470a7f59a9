/-
  NARROWER THAN 'FOR EVERY INPUT', by the rows' own cells (each row's printed sentence says how): RegistryMatchesReference: laid · RegistryOnes: laid · RegistryOwner: laid · RegistryMoves: laid · RegistryRefuses: laid · RegistryChains: laid.
  DERIVED. THE GIVEN ROWS OF THIS SEAT. 6 by the template 'for every input the law returns true; each argument reads behind the call as it read before'; 0 by the template 'total and deterministic' (their statements: YtlpempbeenpilaaGreatDoorTotals.lean).
  GIVEN WITH THE SEED: the statements are not yours to turn. If you find one false, say at which input.
  Laid BY PROGRAM, IN A SANDBOX (cutbox-rows.mjs): the forced cells as the released guide's own fill.sh prints them over the translation a1dc4b341e0a7dbf… (all of the seat's roots in one cut). By AI agents, Wed Nov 11 2026. No macro, syntax, notation, axiom, sorry.
-/
import Derived.Test.YtlpempbeenpilaaGreatDoorChecked
import GoSem.PinnedTables
import GoSem.Claim
import GoSem.ClaimJoined
import GoSem.ClaimMapViews
import Derived.JoinedTies
import Derived.KernelRfl
namespace Go.Proofs.YtlpempbeenpilaaGreatDoor
/- THE CELL 'sum', in the pinned program and in every row, IS THE sha256 OF THE DUMP (.gsa) THAT YtlpempbeenpilaaGreatDoorProg.lean LOADS. Nothing in Lean hashes anything: it is a label: what it is worth is what the hold of that sum in a sandbox is worth. -/
noncomputable def Tryz.pinned : Pinned := { name := "ytlpempbeenpilaagreatdoor", sum := "a1dc4b341e0a7dbf60ec8b3b57fbe377e159f122d5d48a1cc7b521b72a2aba40", checked := Tryz.checked }
namespace Rows
def none {H : Type} : Left H := { results := [], args := [] }

/- WHAT THE LISTED PACKAGE-LEVEL VARIABLES READ AS WHEN THE CALL BEGINS. Each datum BY PROGRAM (the guide's laid-datum.mjs) off the statement by which the dump's own 'gosem.cut.vars' lays the variable. In a bare row this is a premise. The card (YtlpempbeenpilaaGreatDoorCards.lean) ties it to the program's text. -/
def laid_math_bits_deBruijn32tab {H : Type} : DataW H := .agg [.lit (.int .u8 0), .lit (.int .u8 1), .lit (.int .u8 28), .lit (.int .u8 2), .lit (.int .u8 29), .lit (.int .u8 14), .lit (.int .u8 24), .lit (.int .u8 3), .lit (.int .u8 30), .lit (.int .u8 22), .lit (.int .u8 20), .lit (.int .u8 15), .lit (.int .u8 25), .lit (.int .u8 17), .lit (.int .u8 4), .lit (.int .u8 8), .lit (.int .u8 31), .lit (.int .u8 27), .lit (.int .u8 13), .lit (.int .u8 23), .lit (.int .u8 21), .lit (.int .u8 19), .lit (.int .u8 16), .lit (.int .u8 7), .lit (.int .u8 26), .lit (.int .u8 12), .lit (.int .u8 18), .lit (.int .u8 6), .lit (.int .u8 11), .lit (.int .u8 5), .lit (.int .u8 10), .lit (.int .u8 9)]
def laid_math_bits_deBruijn64tab {H : Type} : DataW H := .agg [.lit (.int .u8 0), .lit (.int .u8 1), .lit (.int .u8 56), .lit (.int .u8 2), .lit (.int .u8 57), .lit (.int .u8 49), .lit (.int .u8 28), .lit (.int .u8 3), .lit (.int .u8 61), .lit (.int .u8 58), .lit (.int .u8 42), .lit (.int .u8 50), .lit (.int .u8 38), .lit (.int .u8 29), .lit (.int .u8 17), .lit (.int .u8 4), .lit (.int .u8 62), .lit (.int .u8 47), .lit (.int .u8 59), .lit (.int .u8 36), .lit (.int .u8 45), .lit (.int .u8 43), .lit (.int .u8 51), .lit (.int .u8 22), .lit (.int .u8 53), .lit (.int .u8 39), .lit (.int .u8 33), .lit (.int .u8 30), .lit (.int .u8 24), .lit (.int .u8 18), .lit (.int .u8 12), .lit (.int .u8 5), .lit (.int .u8 63), .lit (.int .u8 55), .lit (.int .u8 48), .lit (.int .u8 27), .lit (.int .u8 60), .lit (.int .u8 41), .lit (.int .u8 37), .lit (.int .u8 16), .lit (.int .u8 46), .lit (.int .u8 35), .lit (.int .u8 44), .lit (.int .u8 21), .lit (.int .u8 52), .lit (.int .u8 32), .lit (.int .u8 23), .lit (.int .u8 11), .lit (.int .u8 54), .lit (.int .u8 26), .lit (.int .u8 40), .lit (.int .u8 15), .lit (.int .u8 34), .lit (.int .u8 20), .lit (.int .u8 31), .lit (.int .u8 10), .lit (.int .u8 25), .lit (.int .u8 14), .lit (.int .u8 19), .lit (.int .u8 9), .lit (.int .u8 13), .lit (.int .u8 8), .lit (.int .u8 7), .lit (.int .u8 6)]
def laid_internal_strconv_uint64pow10 {H : Type} : DataW H := .agg [.lit (.int .u64 1), .lit (.int .u64 10), .lit (.int .u64 100), .lit (.int .u64 1000), .lit (.int .u64 10000), .lit (.int .u64 100000), .lit (.int .u64 1000000), .lit (.int .u64 10000000), .lit (.int .u64 100000000), .lit (.int .u64 1000000000), .lit (.int .u64 10000000000), .lit (.int .u64 100000000000), .lit (.int .u64 1000000000000), .lit (.int .u64 10000000000000), .lit (.int .u64 100000000000000), .lit (.int .u64 1000000000000000), .lit (.int .u64 10000000000000000), .lit (.int .u64 100000000000000000), .lit (.int .u64 1000000000000000000), .lit (.int .u64 10000000000000000000)]
def laid_unicode_utf8_acceptRanges {H : Type} : DataW H := .agg [.agg [.lit (.int .u8 128), .lit (.int .u8 191)], .agg [.lit (.int .u8 160), .lit (.int .u8 191)], .agg [.lit (.int .u8 128), .lit (.int .u8 159)], .agg [.lit (.int .u8 144), .lit (.int .u8 191)], .agg [.lit (.int .u8 128), .lit (.int .u8 143)], .agg [.lit (.int .u8 0), .lit (.int .u8 0)], .agg [.lit (.int .u8 0), .lit (.int .u8 0)], .agg [.lit (.int .u8 0), .lit (.int .u8 0)], .agg [.lit (.int .u8 0), .lit (.int .u8 0)], .agg [.lit (.int .u8 0), .lit (.int .u8 0)], .agg [.lit (.int .u8 0), .lit (.int .u8 0)], .agg [.lit (.int .u8 0), .lit (.int .u8 0)], .agg [.lit (.int .u8 0), .lit (.int .u8 0)], .agg [.lit (.int .u8 0), .lit (.int .u8 0)], .agg [.lit (.int .u8 0), .lit (.int .u8 0)], .agg [.lit (.int .u8 0), .lit (.int .u8 0)]]
def laid_foyer_digest_hex {H : Type} : DataW H := .agg [.lit (.int .u8 48), .lit (.int .u8 49), .lit (.int .u8 50), .lit (.int .u8 51), .lit (.int .u8 52), .lit (.int .u8 53), .lit (.int .u8 54), .lit (.int .u8 55), .lit (.int .u8 56), .lit (.int .u8 57), .lit (.int .u8 97), .lit (.int .u8 98), .lit (.int .u8 99), .lit (.int .u8 100), .lit (.int .u8 101), .lit (.int .u8 102)]
/-- One of Go's own tables, pinned by name: the form's constant. -/
def laid_unicode_utf8_first : DataW Unit := Go.Pinned.utf8First

/-- 'foyerlaw32.RegistryMatchesReference': WHATEVER THE INPUT: true; the input reads as it did. -/
def registryMatchesReferenceSpec : ChangeSpec := { name := "registryMatchesReference", fn := fun _ => fun
  | [d1, d2, d3] => { results := [.lit (.bool true)], args := [d1, d2, d3] }
  | _ => none }
def registryMatchesReferenceRow : OpenClaim := { program := "ytlpempbeenpilaagreatdoor", sum := "a1dc4b341e0a7dbf60ec8b3b57fbe377e159f122d5d48a1cc7b521b72a2aba40", func := "foyer/foyerlaw32.RegistryMatchesReference", spec := "registryMatchesReference", inPlace := ["internal/abi.NoEscape", "internal/bytealg.IndexByteString", "internal/bytealg.IndexString"], unfollowed := true, recurses := true, named := ["internal/strconv.uint64pow10", "math/bits.deBruijn32tab", "math/bits.deBruijn64tab", "foyer/digest.hex", "unicode/utf8.first", "unicode/utf8.acceptRanges", "internal/bytealg.MaxLen"], apart := false, laid := [("math/bits.deBruijn32tab", laid_math_bits_deBruijn32tab), ("math/bits.deBruijn64tab", laid_math_bits_deBruijn64tab), ("internal/strconv.uint64pow10", laid_internal_strconv_uint64pow10), ("unicode/utf8.acceptRanges", laid_unicode_utf8_acceptRanges), ("foyer/digest.hex", laid_foyer_digest_hex), ("unicode/utf8.first", laid_unicode_utf8_first)] }
def RegistryMatchesReferenceSaid : Prop := registryMatchesReferenceRow.holds Tryz.pinned (OpenSpec.ofChange registryMatchesReferenceSpec)

/-- ITS FALSE NEIGHBOUR: 'it returns false'. Refute it at one input. -/
def registryMatchesReferenceWrong : ChangeSpec := { name := "registryMatchesReference", fn := fun _ => fun
  | [d1, d2, d3] => { results := [.lit (.bool false)], args := [d1, d2, d3] }
  | _ => none }
def RegistryMatchesReferenceWrongFalsely : Prop := registryMatchesReferenceRow.holds Tryz.pinned (OpenSpec.ofChange registryMatchesReferenceWrong)

/-- 'foyerlaw32.RegistryOnes': WHATEVER THE INPUT: true; the input reads as it did. -/
def registryOnesSpec : ChangeSpec := { name := "registryOnes", fn := fun _ => fun
  | [d1, d2] => { results := [.lit (.bool true)], args := [d1, d2] }
  | _ => none }
def registryOnesRow : OpenClaim := { program := "ytlpempbeenpilaagreatdoor", sum := "a1dc4b341e0a7dbf60ec8b3b57fbe377e159f122d5d48a1cc7b521b72a2aba40", func := "foyer/foyerlaw32.RegistryOnes", spec := "registryOnes", inPlace := ["internal/abi.NoEscape", "internal/bytealg.IndexByteString", "internal/bytealg.IndexString"], unfollowed := true, recurses := true, named := ["internal/strconv.uint64pow10", "math/bits.deBruijn32tab", "math/bits.deBruijn64tab", "foyer/digest.hex", "unicode/utf8.first", "unicode/utf8.acceptRanges", "internal/bytealg.MaxLen"], apart := false, laid := [("math/bits.deBruijn32tab", laid_math_bits_deBruijn32tab), ("math/bits.deBruijn64tab", laid_math_bits_deBruijn64tab), ("internal/strconv.uint64pow10", laid_internal_strconv_uint64pow10), ("unicode/utf8.acceptRanges", laid_unicode_utf8_acceptRanges), ("foyer/digest.hex", laid_foyer_digest_hex), ("unicode/utf8.first", laid_unicode_utf8_first)] }
def RegistryOnesSaid : Prop := registryOnesRow.holds Tryz.pinned (OpenSpec.ofChange registryOnesSpec)

/-- ITS FALSE NEIGHBOUR: 'it returns false'. Refute it at one input. -/
def registryOnesWrong : ChangeSpec := { name := "registryOnes", fn := fun _ => fun
  | [d1, d2] => { results := [.lit (.bool false)], args := [d1, d2] }
  | _ => none }
def RegistryOnesWrongFalsely : Prop := registryOnesRow.holds Tryz.pinned (OpenSpec.ofChange registryOnesWrong)

/-- 'foyerlaw32.RegistryOwner': WHATEVER THE INPUT: true; the input reads as it did. -/
def registryOwnerSpec : ChangeSpec := { name := "registryOwner", fn := fun _ => fun
  | [d1, d2, d3, d4, d5] => { results := [.lit (.bool true)], args := [d1, d2, d3, d4, d5] }
  | _ => none }
def registryOwnerRow : OpenClaim := { program := "ytlpempbeenpilaagreatdoor", sum := "a1dc4b341e0a7dbf60ec8b3b57fbe377e159f122d5d48a1cc7b521b72a2aba40", func := "foyer/foyerlaw32.RegistryOwner", spec := "registryOwner", inPlace := ["internal/abi.NoEscape", "internal/bytealg.IndexByteString", "internal/bytealg.IndexString"], unfollowed := true, recurses := true, named := ["internal/strconv.uint64pow10", "math/bits.deBruijn32tab", "math/bits.deBruijn64tab", "foyer/digest.hex", "unicode/utf8.first", "unicode/utf8.acceptRanges", "internal/bytealg.MaxLen"], apart := false, laid := [("math/bits.deBruijn32tab", laid_math_bits_deBruijn32tab), ("math/bits.deBruijn64tab", laid_math_bits_deBruijn64tab), ("internal/strconv.uint64pow10", laid_internal_strconv_uint64pow10), ("unicode/utf8.acceptRanges", laid_unicode_utf8_acceptRanges), ("foyer/digest.hex", laid_foyer_digest_hex), ("unicode/utf8.first", laid_unicode_utf8_first)] }
def RegistryOwnerSaid : Prop := registryOwnerRow.holds Tryz.pinned (OpenSpec.ofChange registryOwnerSpec)

/-- ITS FALSE NEIGHBOUR: 'it returns false'. Refute it at one input. -/
def registryOwnerWrong : ChangeSpec := { name := "registryOwner", fn := fun _ => fun
  | [d1, d2, d3, d4, d5] => { results := [.lit (.bool false)], args := [d1, d2, d3, d4, d5] }
  | _ => none }
def RegistryOwnerWrongFalsely : Prop := registryOwnerRow.holds Tryz.pinned (OpenSpec.ofChange registryOwnerWrong)

/-- 'foyerlaw32.RegistryMoves': WHATEVER THE INPUT: true; the input reads as it did. -/
def registryMovesSpec : ChangeSpec := { name := "registryMoves", fn := fun _ => fun
  | [d1, d2, d3, d4] => { results := [.lit (.bool true)], args := [d1, d2, d3, d4] }
  | _ => none }
def registryMovesRow : OpenClaim := { program := "ytlpempbeenpilaagreatdoor", sum := "a1dc4b341e0a7dbf60ec8b3b57fbe377e159f122d5d48a1cc7b521b72a2aba40", func := "foyer/foyerlaw32.RegistryMoves", spec := "registryMoves", inPlace := ["internal/abi.NoEscape", "internal/bytealg.IndexByteString", "internal/bytealg.IndexString"], unfollowed := true, recurses := true, named := ["internal/strconv.uint64pow10", "math/bits.deBruijn32tab", "math/bits.deBruijn64tab", "foyer/digest.hex", "unicode/utf8.first", "unicode/utf8.acceptRanges", "internal/bytealg.MaxLen"], apart := false, laid := [("math/bits.deBruijn32tab", laid_math_bits_deBruijn32tab), ("math/bits.deBruijn64tab", laid_math_bits_deBruijn64tab), ("internal/strconv.uint64pow10", laid_internal_strconv_uint64pow10), ("unicode/utf8.acceptRanges", laid_unicode_utf8_acceptRanges), ("foyer/digest.hex", laid_foyer_digest_hex), ("unicode/utf8.first", laid_unicode_utf8_first)] }
def RegistryMovesSaid : Prop := registryMovesRow.holds Tryz.pinned (OpenSpec.ofChange registryMovesSpec)

/-- ITS FALSE NEIGHBOUR: 'it returns false'. Refute it at one input. -/
def registryMovesWrong : ChangeSpec := { name := "registryMoves", fn := fun _ => fun
  | [d1, d2, d3, d4] => { results := [.lit (.bool false)], args := [d1, d2, d3, d4] }
  | _ => none }
def RegistryMovesWrongFalsely : Prop := registryMovesRow.holds Tryz.pinned (OpenSpec.ofChange registryMovesWrong)

/-- 'foyerlaw32.RegistryRefuses': WHATEVER THE INPUT: true; the input reads as it did. -/
def registryRefusesSpec : ChangeSpec := { name := "registryRefuses", fn := fun _ => fun
  | [d1, d2, d3] => { results := [.lit (.bool true)], args := [d1, d2, d3] }
  | _ => none }
def registryRefusesRow : OpenClaim := { program := "ytlpempbeenpilaagreatdoor", sum := "a1dc4b341e0a7dbf60ec8b3b57fbe377e159f122d5d48a1cc7b521b72a2aba40", func := "foyer/foyerlaw32.RegistryRefuses", spec := "registryRefuses", inPlace := ["internal/abi.NoEscape", "internal/bytealg.IndexByteString", "internal/bytealg.IndexString"], unfollowed := true, recurses := true, named := ["internal/strconv.uint64pow10", "math/bits.deBruijn32tab", "math/bits.deBruijn64tab", "foyer/digest.hex", "unicode/utf8.first", "unicode/utf8.acceptRanges", "internal/bytealg.MaxLen"], apart := false, laid := [("math/bits.deBruijn32tab", laid_math_bits_deBruijn32tab), ("math/bits.deBruijn64tab", laid_math_bits_deBruijn64tab), ("internal/strconv.uint64pow10", laid_internal_strconv_uint64pow10), ("unicode/utf8.acceptRanges", laid_unicode_utf8_acceptRanges), ("foyer/digest.hex", laid_foyer_digest_hex), ("unicode/utf8.first", laid_unicode_utf8_first)] }
def RegistryRefusesSaid : Prop := registryRefusesRow.holds Tryz.pinned (OpenSpec.ofChange registryRefusesSpec)

/-- ITS FALSE NEIGHBOUR: 'it returns false'. Refute it at one input. -/
def registryRefusesWrong : ChangeSpec := { name := "registryRefuses", fn := fun _ => fun
  | [d1, d2, d3] => { results := [.lit (.bool false)], args := [d1, d2, d3] }
  | _ => none }
def RegistryRefusesWrongFalsely : Prop := registryRefusesRow.holds Tryz.pinned (OpenSpec.ofChange registryRefusesWrong)

/-- 'foyerlaw32.RegistryChains': WHATEVER THE INPUT: true; the input reads as it did. -/
def registryChainsSpec : ChangeSpec := { name := "registryChains", fn := fun _ => fun
  | [d1, d2] => { results := [.lit (.bool true)], args := [d1, d2] }
  | _ => none }
def registryChainsRow : OpenClaim := { program := "ytlpempbeenpilaagreatdoor", sum := "a1dc4b341e0a7dbf60ec8b3b57fbe377e159f122d5d48a1cc7b521b72a2aba40", func := "foyer/foyerlaw32.RegistryChains", spec := "registryChains", inPlace := ["internal/abi.NoEscape", "internal/bytealg.IndexByteString", "internal/bytealg.IndexString"], unfollowed := true, recurses := true, named := ["internal/strconv.uint64pow10", "math/bits.deBruijn32tab", "math/bits.deBruijn64tab", "foyer/digest.hex", "unicode/utf8.first", "unicode/utf8.acceptRanges", "internal/bytealg.MaxLen"], apart := false, laid := [("math/bits.deBruijn32tab", laid_math_bits_deBruijn32tab), ("math/bits.deBruijn64tab", laid_math_bits_deBruijn64tab), ("internal/strconv.uint64pow10", laid_internal_strconv_uint64pow10), ("unicode/utf8.acceptRanges", laid_unicode_utf8_acceptRanges), ("foyer/digest.hex", laid_foyer_digest_hex), ("unicode/utf8.first", laid_unicode_utf8_first)] }
def RegistryChainsSaid : Prop := registryChainsRow.holds Tryz.pinned (OpenSpec.ofChange registryChainsSpec)

/-- ITS FALSE NEIGHBOUR: 'it returns false'. Refute it at one input. -/
def registryChainsWrong : ChangeSpec := { name := "registryChains", fn := fun _ => fun
  | [d1, d2] => { results := [.lit (.bool false)], args := [d1, d2] }
  | _ => none }
def RegistryChainsWrongFalsely : Prop := registryChainsRow.holds Tryz.pinned (OpenSpec.ofChange registryChainsWrong)

/- THE SECOND FORM. 'bulk': how many values and letters a reading holds, each counted each time it is reached (what is shared counts as often as it is met; a slice's spare places count too). A statement '..UptoSaid' is the law's where the arguments, and the package variables that the reading takes, are together of bulk at most 1048576: NARROWER than '..Said'. Prove '..Said' where nothing that the law and all that it calls make is longer than what came in: it says more and counts as full. Else prove '..UptoSaid'. A law counts once. -/
mutual
def uptoBulk {H : Type} : DataW H → Nat
  | .lit (.string bytes) => bytes.length + 1
  | .lit _ => 1
  | .nil => 1
  | .ptr d => uptoBulk d + 1
  | .slice elems spare => uptoBulkAll elems + uptoBulkAll spare + 1
  | .agg parts => uptoBulkAll parts + 1
  | .iface _ d => uptoBulk d + 1
  | .map entries => uptoBulkEntries entries + 1
  | .held _ => 1
def uptoBulkAll {H : Type} : List (DataW H) → Nat
  | [] => 0
  | d :: r => uptoBulk d + uptoBulkAll r
def uptoBulkEntries {H : Type} : List (Lit × DataW H) → Nat
  | [] => 0
  | x :: r => uptoBulkEntry x + uptoBulkEntries r
def uptoBulkEntry {H : Type} : Lit × DataW H → Nat
  | (.string bytes, d) => bytes.length + uptoBulk d + 1
  | (_, d) => uptoBulk d + 1
 end
def uptoSmall : (H : Type) → List (DataW H) → Bool := fun _ ds => decide (uptoBulkAll ds ≤ 1048576)
def OpenSpec.upto (s : _root_.Go.ChangeSpec) : _root_.Go.OpenSpec := { _root_.Go.OpenSpec.ofChange s with cond := some uptoSmall }

/-- 'foyerlaw32.RegistryMatchesReference', WHERE WHAT IT READS IS OF BULK AT MOST 1048576: true; the input reads as it did. -/
def registryMatchesReferenceUptoRow : OpenClaim := { program := "ytlpempbeenpilaagreatdoor", sum := "a1dc4b341e0a7dbf60ec8b3b57fbe377e159f122d5d48a1cc7b521b72a2aba40", func := "foyer/foyerlaw32.RegistryMatchesReference", spec := "registryMatchesReference", inPlace := ["internal/abi.NoEscape", "internal/bytealg.IndexByteString", "internal/bytealg.IndexString"], unfollowed := true, recurses := true, named := ["internal/strconv.uint64pow10", "math/bits.deBruijn32tab", "math/bits.deBruijn64tab", "foyer/digest.hex", "unicode/utf8.first", "unicode/utf8.acceptRanges", "internal/bytealg.MaxLen"], apart := false, laid := [("math/bits.deBruijn32tab", laid_math_bits_deBruijn32tab), ("math/bits.deBruijn64tab", laid_math_bits_deBruijn64tab), ("internal/strconv.uint64pow10", laid_internal_strconv_uint64pow10), ("unicode/utf8.acceptRanges", laid_unicode_utf8_acceptRanges), ("foyer/digest.hex", laid_foyer_digest_hex), ("unicode/utf8.first", laid_unicode_utf8_first)], narrowed := true }
def RegistryMatchesReferenceUptoSaid : Prop := registryMatchesReferenceUptoRow.holds Tryz.pinned (OpenSpec.upto registryMatchesReferenceSpec)

/-- 'foyerlaw32.RegistryOnes', WHERE WHAT IT READS IS OF BULK AT MOST 1048576: true; the input reads as it did. -/
def registryOnesUptoRow : OpenClaim := { program := "ytlpempbeenpilaagreatdoor", sum := "a1dc4b341e0a7dbf60ec8b3b57fbe377e159f122d5d48a1cc7b521b72a2aba40", func := "foyer/foyerlaw32.RegistryOnes", spec := "registryOnes", inPlace := ["internal/abi.NoEscape", "internal/bytealg.IndexByteString", "internal/bytealg.IndexString"], unfollowed := true, recurses := true, named := ["internal/strconv.uint64pow10", "math/bits.deBruijn32tab", "math/bits.deBruijn64tab", "foyer/digest.hex", "unicode/utf8.first", "unicode/utf8.acceptRanges", "internal/bytealg.MaxLen"], apart := false, laid := [("math/bits.deBruijn32tab", laid_math_bits_deBruijn32tab), ("math/bits.deBruijn64tab", laid_math_bits_deBruijn64tab), ("internal/strconv.uint64pow10", laid_internal_strconv_uint64pow10), ("unicode/utf8.acceptRanges", laid_unicode_utf8_acceptRanges), ("foyer/digest.hex", laid_foyer_digest_hex), ("unicode/utf8.first", laid_unicode_utf8_first)], narrowed := true }
def RegistryOnesUptoSaid : Prop := registryOnesUptoRow.holds Tryz.pinned (OpenSpec.upto registryOnesSpec)

/-- 'foyerlaw32.RegistryOwner', WHERE WHAT IT READS IS OF BULK AT MOST 1048576: true; the input reads as it did. -/
def registryOwnerUptoRow : OpenClaim := { program := "ytlpempbeenpilaagreatdoor", sum := "a1dc4b341e0a7dbf60ec8b3b57fbe377e159f122d5d48a1cc7b521b72a2aba40", func := "foyer/foyerlaw32.RegistryOwner", spec := "registryOwner", inPlace := ["internal/abi.NoEscape", "internal/bytealg.IndexByteString", "internal/bytealg.IndexString"], unfollowed := true, recurses := true, named := ["internal/strconv.uint64pow10", "math/bits.deBruijn32tab", "math/bits.deBruijn64tab", "foyer/digest.hex", "unicode/utf8.first", "unicode/utf8.acceptRanges", "internal/bytealg.MaxLen"], apart := false, laid := [("math/bits.deBruijn32tab", laid_math_bits_deBruijn32tab), ("math/bits.deBruijn64tab", laid_math_bits_deBruijn64tab), ("internal/strconv.uint64pow10", laid_internal_strconv_uint64pow10), ("unicode/utf8.acceptRanges", laid_unicode_utf8_acceptRanges), ("foyer/digest.hex", laid_foyer_digest_hex), ("unicode/utf8.first", laid_unicode_utf8_first)], narrowed := true }
def RegistryOwnerUptoSaid : Prop := registryOwnerUptoRow.holds Tryz.pinned (OpenSpec.upto registryOwnerSpec)

/-- 'foyerlaw32.RegistryMoves', WHERE WHAT IT READS IS OF BULK AT MOST 1048576: true; the input reads as it did. -/
def registryMovesUptoRow : OpenClaim := { program := "ytlpempbeenpilaagreatdoor", sum := "a1dc4b341e0a7dbf60ec8b3b57fbe377e159f122d5d48a1cc7b521b72a2aba40", func := "foyer/foyerlaw32.RegistryMoves", spec := "registryMoves", inPlace := ["internal/abi.NoEscape", "internal/bytealg.IndexByteString", "internal/bytealg.IndexString"], unfollowed := true, recurses := true, named := ["internal/strconv.uint64pow10", "math/bits.deBruijn32tab", "math/bits.deBruijn64tab", "foyer/digest.hex", "unicode/utf8.first", "unicode/utf8.acceptRanges", "internal/bytealg.MaxLen"], apart := false, laid := [("math/bits.deBruijn32tab", laid_math_bits_deBruijn32tab), ("math/bits.deBruijn64tab", laid_math_bits_deBruijn64tab), ("internal/strconv.uint64pow10", laid_internal_strconv_uint64pow10), ("unicode/utf8.acceptRanges", laid_unicode_utf8_acceptRanges), ("foyer/digest.hex", laid_foyer_digest_hex), ("unicode/utf8.first", laid_unicode_utf8_first)], narrowed := true }
def RegistryMovesUptoSaid : Prop := registryMovesUptoRow.holds Tryz.pinned (OpenSpec.upto registryMovesSpec)

/-- 'foyerlaw32.RegistryRefuses', WHERE WHAT IT READS IS OF BULK AT MOST 1048576: true; the input reads as it did. -/
def registryRefusesUptoRow : OpenClaim := { program := "ytlpempbeenpilaagreatdoor", sum := "a1dc4b341e0a7dbf60ec8b3b57fbe377e159f122d5d48a1cc7b521b72a2aba40", func := "foyer/foyerlaw32.RegistryRefuses", spec := "registryRefuses", inPlace := ["internal/abi.NoEscape", "internal/bytealg.IndexByteString", "internal/bytealg.IndexString"], unfollowed := true, recurses := true, named := ["internal/strconv.uint64pow10", "math/bits.deBruijn32tab", "math/bits.deBruijn64tab", "foyer/digest.hex", "unicode/utf8.first", "unicode/utf8.acceptRanges", "internal/bytealg.MaxLen"], apart := false, laid := [("math/bits.deBruijn32tab", laid_math_bits_deBruijn32tab), ("math/bits.deBruijn64tab", laid_math_bits_deBruijn64tab), ("internal/strconv.uint64pow10", laid_internal_strconv_uint64pow10), ("unicode/utf8.acceptRanges", laid_unicode_utf8_acceptRanges), ("foyer/digest.hex", laid_foyer_digest_hex), ("unicode/utf8.first", laid_unicode_utf8_first)], narrowed := true }
def RegistryRefusesUptoSaid : Prop := registryRefusesUptoRow.holds Tryz.pinned (OpenSpec.upto registryRefusesSpec)

/-- 'foyerlaw32.RegistryChains', WHERE WHAT IT READS IS OF BULK AT MOST 1048576: true; the input reads as it did. -/
def registryChainsUptoRow : OpenClaim := { program := "ytlpempbeenpilaagreatdoor", sum := "a1dc4b341e0a7dbf60ec8b3b57fbe377e159f122d5d48a1cc7b521b72a2aba40", func := "foyer/foyerlaw32.RegistryChains", spec := "registryChains", inPlace := ["internal/abi.NoEscape", "internal/bytealg.IndexByteString", "internal/bytealg.IndexString"], unfollowed := true, recurses := true, named := ["internal/strconv.uint64pow10", "math/bits.deBruijn32tab", "math/bits.deBruijn64tab", "foyer/digest.hex", "unicode/utf8.first", "unicode/utf8.acceptRanges", "internal/bytealg.MaxLen"], apart := false, laid := [("math/bits.deBruijn32tab", laid_math_bits_deBruijn32tab), ("math/bits.deBruijn64tab", laid_math_bits_deBruijn64tab), ("internal/strconv.uint64pow10", laid_internal_strconv_uint64pow10), ("unicode/utf8.acceptRanges", laid_unicode_utf8_acceptRanges), ("foyer/digest.hex", laid_foyer_digest_hex), ("unicode/utf8.first", laid_unicode_utf8_first)], narrowed := true }
def RegistryChainsUptoSaid : Prop := registryChainsUptoRow.holds Tryz.pinned (OpenSpec.upto registryChainsSpec)

end Rows
end Go.Proofs.YtlpempbeenpilaaGreatDoor
