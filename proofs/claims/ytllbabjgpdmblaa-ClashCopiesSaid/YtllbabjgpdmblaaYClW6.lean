/- Parts of the proof. -/
import Derived.Test.YtllbabjgpdmblaaYClW
import Derived.Test.YtllbabjgpdmblaaYClP16
import Derived.Test.YtllbabjgpdmblaaYCl6
namespace Go.Proofs.Ytllbabjgpdmblaa
open Go Go.ChangeShapes Go.WideShapes Go.ChangeAt Go.RowKit
set_option maxRecDepth 100000 in
theorem copiesLifted (os : Os) (started : os.Started) (H : Type) (enc : TypeId × Value → H) :
   ReturnsInHanded {} Try.checked os 6 .any (Rows.clashCopiesSpec.pre6 enc Try.prog Try.f6 Rows.clashCopiesRow.domain false) (Rows.clashCopiesSpec.post enc Try.prog Try.f6 false true false false) := by
 refine returnsInHanded_of_change (C := Try.checked) SX.Cl.ownN started (by kernel_rfl) Try.func6
   (ChangeSpec.witness6 (enc := enc) (C := Try.checked) false ⟨#[], #[.agg #[.slice none 0 0], .int .u8 0, .string ⟨#[]⟩], []⟩ 8 (by kernel_rfl) (by kernel_rfl) (by kernel_rfl) (by kernel_rfl)) ?_
 intro W base args ds gs before hval0 hW hcnd _
 have hval : ∀ (j : Nat) t v, Try.f6.params[j]? = some t → args[j]? = some v → Value.okWide Try.prog W .any base t v := hval0
 have hW' := hW
 obtain ⟨p, q, hA0, hV, rfl, hfz, hnd⟩ := hW
 have hA : DataW.TrodAll enc Try.prog W 0 (fun _ => true) true Try.f6.params.toList args.toList ds p := hA0
 rw [Try.params6] at hA hval
 clear hA0 hval0
 obtain ⟨v0, vs0, d0, ds0, p0, q0, hvs, rfl, rfl, h0, hA0⟩ := trodAll_cons hA
 obtain ⟨v1, vs1, d1, ds1, p1, q1, rfl, rfl, rfl, h1, hA1⟩ := trodAll_cons hA0
 obtain ⟨v2, vs2, d2, ds2, p2, q2, rfl, rfl, rfl, h2, hA2⟩ := trodAll_cons hA1
 obtain ⟨rfl, rfl, rfl⟩ := trodAll_nil hA2
 have hargs : args = #[v0, v1, v2] := Array.ext' hvs
 subst hargs
 obtain ⟨rfl, rfl⟩ := trodVars_none hV
 obtain ⟨p, r0, hI⟩ := SX.Cl.openPolicy (hval 0 24 v0 rfl rfl) h0
 obtain ⟨n, r1, hN⟩ := SX.Cl.openByte (hval 1 5 v1 rfl rfl) h1
 obtain ⟨s, r2⟩ := SX.Cl.openStr (hval 2 9 v2 rfl rfl) h2
 simp only [List.append_nil] at hW'
 have hfn : SX.Fn1 Try.prog 6 [SX.Cl.vPolicy p, SX.Cl.vIu8 n, SX.Cl.vS s] (SX.Cl.vB true) := SX.Cl.law16_ClashCopies_R rfl p n s true (SX.Cl.copies_ok p hI n hN s)
 have hcall := SX.Cl.lawCalls (w := W) (us := [v0, v1, v2]) hfn (.cons r0 (.cons r1 (.cons r2 .nil)))
 refine hcall.mono fun e W' ⟨he, hb⟩ => ?_
 subst he
 exact ⟨_, rfl, lawPost rfl hW' (fun t ht => by
   rw [Try.params6] at ht
   simp only [List.mem_cons, List.not_mem_nil, or_false] at ht
   rcases ht with rfl | rfl | rfl <;> exact ⟨by kernel_rfl, of_decide_eq_true (by kernel_rfl)⟩) (by kernel_rfl) rfl hb⟩
theorem clashCopies_holds : Rows.ClashCopiesSaid :=
 OpenClaim.holds_of_wide 6 Try.f6 rfl rfl rfl rfl rfl rfl rfl ⟨rfl, rfl, rfl, rfl, rfl⟩ rfl rfl rfl rfl rfl (by kernel_rfl) Try.func6 (by kernel_rfl)
   (of_decide_eq_true (by kernel_rfl)) (by unfold Func.isWrapper; first | (rw [if_pos (by decide +kernel)]; kernel_rfl) | (rw [if_neg (by decide +kernel)]; exact ⟨rfl, rfl⟩))
   (fun os started H enc _ => copiesLifted os started H enc)
end Go.Proofs.Ytllbabjgpdmblaa
