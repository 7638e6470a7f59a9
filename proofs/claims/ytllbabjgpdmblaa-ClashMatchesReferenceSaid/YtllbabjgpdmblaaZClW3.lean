/- Parts of the proof. -/
import Derived.Test.YtllbabjgpdmblaaZClW
import Derived.Test.YtllbabjgpdmblaaZClP20
import Derived.Test.YtllbabjgpdmblaaZCl3
set_option linter.unusedSimpArgs false
set_option linter.unusedVariables false
namespace Go.Proofs.Ytllbabjgpdmblaa
open Go Go.ChangeShapes Go.WideShapes Go.ChangeAt Go.RowKit
set_option maxRecDepth 100000 in
theorem matchesLifted (os : Os) (started : os.Started) (H : Type) (enc : TypeId × Value → H) :
   ReturnsInHanded {} Try.checked os 3 .any (Rows.clashMatchesReferenceSpec.pre6 enc Try.prog Try.f3 Rows.clashMatchesReferenceRow.domain false) (Rows.clashMatchesReferenceSpec.post enc Try.prog Try.f3 false true false false) := by
 refine returnsInHanded_of_change (C := Try.checked) SX.Cl.ownN started (by kernel_rfl) Try.func3
   (ChangeSpec.witness6 (enc := enc) (C := Try.checked) false ⟨#[], #[.agg #[.slice none 0 0]], []⟩ 8 (by kernel_rfl) (by kernel_rfl) (by kernel_rfl) (by kernel_rfl)) ?_
 intro W base args ds gs before hval0 hW hcnd _
 have hval : ∀ (j : Nat) t v, Try.f3.params[j]? = some t → args[j]? = some v → Value.okWide Try.prog W .any base t v := hval0
 have hW' := hW
 obtain ⟨p, q, hA0, hV, rfl, hfz, hnd⟩ := hW
 have hA : DataW.TrodAll enc Try.prog W 0 (fun _ => true) true Try.f3.params.toList args.toList ds p := hA0
 rw [Try.params3] at hA hval
 clear hA0 hval0
 obtain ⟨v0, vs0, d0, ds0, p0, q0, hvs, rfl, rfl, h0, hA0⟩ := trodAll_cons hA
 obtain ⟨rfl, rfl, rfl⟩ := trodAll_nil hA0
 have hargs : args = #[v0] := Array.ext' hvs
 subst hargs
 obtain ⟨rfl, rfl⟩ := trodVars_none hV
 obtain ⟨p, r0, hI⟩ := SX.Cl.openPolicy (hval 0 24 v0 rfl rfl) h0
 simp only [List.append_nil] at hW'
 have hfn : SX.Fn1 Try.prog 3 [SX.Cl.vPolicy p] (SX.Cl.vB true) := SX.Cl.law16_ClashMatchesReference_R rfl p true (SX.Cl.matches_ok p hI)
 have hcall := SX.Cl.lawCalls (w := W) (us := [v0]) hfn (.cons r0 .nil)
 refine hcall.mono fun e W' ⟨he, hb⟩ => ?_
 subst he
 exact ⟨_, rfl, lawPost rfl hW' (fun t ht => by
   rw [Try.params3] at ht
   simp only [List.mem_cons, List.mem_toArray, List.not_mem_nil, or_false] at ht
   rcases ht with rfl <;> exact ⟨by kernel_rfl, of_decide_eq_true (by kernel_rfl)⟩) (by kernel_rfl) rfl hb⟩
theorem clashMatchesReference_holds : Rows.ClashMatchesReferenceSaid :=
 OpenClaim.holds_of_wide 3 Try.f3 rfl rfl rfl rfl rfl rfl rfl ⟨rfl, rfl, rfl, rfl, rfl⟩ rfl rfl rfl rfl rfl (by kernel_rfl) Try.func3 (by kernel_rfl)
   (of_decide_eq_true (by kernel_rfl)) (by unfold Func.isWrapper; first | (rw [if_pos (by decide +kernel)]; kernel_rfl) | (rw [if_neg (by decide +kernel)]; exact ⟨rfl, rfl⟩))
   (fun os started H enc _ => matchesLifted os started H enc)
end Go.Proofs.Ytllbabjgpdmblaa
