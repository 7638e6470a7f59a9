/- Parts of the proof. -/
import Derived.Test.YtllbabjgpdmblaaDoorZTdFew
import Derived.Test.YtllbabjgpdmblaaDoorZTd4d
set_option linter.unusedSimpArgs false
set_option linter.unusedVariables false
set_option linter.unusedSectionVars false
namespace Go.SX.Td
open Go Go.SX Tb
theorem VerifyInvalid_eq {p : Policy} (hp : LenP p) {T : Table} (hT : TabIn T) : law15_VerifyInvalid_g p T = some true := by
 unfold law15_VerifyInvalid_g
 rcases few_cases hp hT with h | ⟨h, -, S⟩
 ·simp only [law15_head_eq, h, Option.bind_some, io_not, Bool.not_false, cond_true]
 ·have q1 : qA10Ii64 A0 (A10.mk 0 0 0 0 0 0 0 0 0 0) = true := by rw [qA10_eq]; rfl
  simp only [law15_head_eq, h, Option.bind_some, io_not, Bool.not_true, cond_false, Valid_eq]
  rcases small_cases S with hv | ⟨t, rfl, hb, c, e, -⟩
  ·have hd := Differ_bad (p := p) (.inr hv) ⟨_, hv⟩
   cases validB p with
   | false => simp only [cond_false, Option.bind_some, hd, cond_true, q1]
   | true => simp only [cond_true, hv, Option.bind_some, hd, cond_false, q1]
  ·cases hvp : validB p with
   | false =>
    have hd := Differ_bad (T := tabE t) (.inl hvp) ⟨_, e⟩
    simp only [cond_false, Option.bind_some, hd, cond_true, q1]
   | true => simp only [cond_true, e, Option.bind_some]
end Go.SX.Td
