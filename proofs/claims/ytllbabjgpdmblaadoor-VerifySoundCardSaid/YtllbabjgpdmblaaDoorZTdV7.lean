/- Parts of the proof. -/
import Derived.Test.YtllbabjgpdmblaaDoorZTdFew
import Derived.Test.YtllbabjgpdmblaaDoorZTd18
set_option linter.unusedSimpArgs false
set_option linter.unusedVariables false
set_option linter.unusedSectionVars false
namespace Go.SX.Td
open Go Go.SX Tb
open Classical in
theorem VerifySound_eq {p : Policy} (hp : LenP p) {T : Table} (hT : TabIn T) (f : A10 Int) : law15_VerifySound_g p T f = some true := by
 unfold law15_VerifySound_g
 rcases few_cases hp hT with h | ⟨h, hf, S⟩
 ·simp only [law15_head_eq, h, Option.bind_some, io_not, Bool.not_false, cond_true]
 ·simp only [law15_head_eq, h, Option.bind_some, io_not, Bool.not_true, cond_false, Valid_eq, Within_eq]
  by_cases hin : limL.In (toF f)
  ·rw [decide_eq_true hin]
   cases hvp : validB p with
   | false => simp only [Bool.not_true, cond_false, Bool.not_false, cond_true, Option.bind_some]
   | true =>
    rcases small_cases S with hv | ⟨t, rfl, hb, c, e, n1, n2⟩
    ·simp only [Bool.not_true, cond_false, hv, Bool.not_false, cond_true, Option.bind_some]
    ·have G := PG_few hvp (few_zones hvp hf)
     obtain ⟨g, b, e2, H⟩ := Differ_eq G (by omega) (zones_small hvp) hvp c hb (by omega) (by omega)
     have hlk := fun f => Lookup_eq c hb (by omega) (by omega) f
     have hdc := fun f => Decide_eq p f G.rules G.zones
     simp only [Bool.not_true, cond_false, e, Option.bind_some, e2, hdc, hlk, qDecision_eq]
     cases b with
     | false =>
      obtain ⟨rfl, h2⟩ := H.no rfl
      have q1 : qA10Ii64 A0 (A10.mk 0 0 0 0 0 0 0 0 0 0) = true := by rw [qA10_eq]; rfl
      rw [decide_eq_true (h2 f hin)]
      simp only [Bool.not_false, cond_true, q1]
     | true =>
      obtain ⟨h1, h2, h3⟩ := H.yes rfl
      obtain ⟨bl, e3, hbl⟩ := Less_eq f g
      rw [decide_eq_true h1, decide_eq_false h2]
      simp only [Bool.not_true, cond_false, Bool.not_false, cond_true, e3, Option.bind_some]
      by_cases hs : decS p f = t.val (toF f) 0
      ·rw [decide_eq_true hs, cond_true]
      ·rw [decide_eq_false hs, cond_false]
       cases bl with
       | false => rfl
       | true => exact absurd (h3 f hin (hbl.1 rfl)) hs
  ·rw [decide_eq_false hin]
   simp only [Bool.not_false, cond_true, Option.bind_some]
end Go.SX.Td
