/-
  RunsFree: for every list of places and list of what is taken the law returns true, and both lists read behind the call as they read before. No condition.
-/
import Derived.Test.YtlahdopmiplnoaaXRP5
import Derived.Test.YtlahdopmiplnoaaXRW
namespace Go.Proofs.Ytlahdopmiplnoaa
open Go Go.ChangeShapes Go.WideShapes Go.ChangeAt Go.RowKit

theorem freeCalls (l : List SX.Runs.Place) (t : List Bool) (hok : ∀ p ∈ l, SX.Runs.SeatOk p) (v u : Value) (w : World) (h : SX.Rep (SX.Runs.memF w) v (.sl (l.map SX.Runs.Place.ds))) (k : SX.Rep (SX.Runs.memF w) u (.sl (t.map SX.dB))) :
    Calls Try.prog 5 #[v, u] w fun e w' => e = .returned (.bool true) ∧ Below w.heap.size w w' :=
  SX.Runs.lawCalls (us := [v, u]) (SX.Runs.law5 rfl rfl rfl (fun _ ho => SX.Runs.freeOk hok ho) (SX.Runs.free_none _ _)) (.cons (.d h) (.cons (.d k) .nil))

set_option maxRecDepth 100000 in
theorem freeLifted (os : Os) (started : os.Started) (H : Type) (enc : TypeId × Value → H) :
    ReturnsInHanded {} Try.checked os 5 .any (Rows.runsFreeSpec.pre6 enc Try.prog Try.f5 Rows.runsFreeRow.domain false) (Rows.runsFreeSpec.post enc Try.prog Try.f5 false true false false) := by
  refine returnsInHanded_of_change (C := Try.checked) SX.Runs.ownN started (by kernel_rfl) Try.func5
    (ChangeSpec.witness6 (enc := enc) (C := Try.checked) false ⟨#[], #[.slice none 0 0, .slice none 0 0], []⟩ 8 (by kernel_rfl) (by kernel_rfl) (by kernel_rfl) (by kernel_rfl)) ?_
  intro W base args ds gs before hval0 hW hcnd _
  have hval : ∀ (j : Nat) t v, Try.f5.params[j]? = some t → args[j]? = some v → Value.okWide Try.prog W .any base t v := hval0
  have hW' := hW
  obtain ⟨p, q, hA0, hV, rfl, hfz, hnd⟩ := hW
  have hA : DataW.TrodAll enc Try.prog W 0 (fun _ => true) true Try.f5.params.toList args.toList ds p := hA0
  rw [Try.params5] at hA hval
  obtain ⟨v0, v1, d0, d1, p0, p1, rfl, rfl, rfl, h0, h1⟩ := trodAll_two hA
  obtain ⟨rfl, rfl⟩ := trodVars_none hV
  obtain ⟨l, hl, hok⟩ := SX.Runs.openPlaces (okWide_slice Try.underlying22 (hval 0 22 v0 rfl rfl)) h0
  obtain ⟨t, ht⟩ := SX.Runs.openBools (okWide_slice Try.underlying23 (hval 1 23 v1 rfl rfl)) h1
  clear hA0 hval0
  simp only [List.append_nil] at hW'
  refine (freeCalls l t hok v0 v1 W hl ht).mono fun e W' ⟨he, hb⟩ => ?_
  subst he
  exact ⟨_, rfl, lawPost rfl hW' (fun t ht => by
    rw [Try.params5] at ht
    have ht : t = 22 ∨ t = 23 := by simpa using ht
    rcases ht with rfl | rfl <;> exact ⟨by kernel_rfl, of_decide_eq_true (by kernel_rfl)⟩) (by kernel_rfl) rfl hb⟩

theorem runsFree_holds : Rows.RunsFreeSaid :=
  OpenClaim.holds_of_wide 5 Try.f5 rfl rfl rfl rfl rfl rfl rfl ⟨rfl, rfl, rfl, rfl, rfl⟩ rfl rfl rfl rfl rfl (by kernel_rfl) Try.func5 (by kernel_rfl)
    (of_decide_eq_true (by kernel_rfl)) (by unfold Func.isWrapper; first | (rw [if_pos (by decide +kernel)]; kernel_rfl) | (rw [if_neg (by decide +kernel)]; exact ⟨rfl, rfl⟩))
    (fun os started H enc _ => freeLifted os started H enc)

end Go.Proofs.Ytlahdopmiplnoaa
