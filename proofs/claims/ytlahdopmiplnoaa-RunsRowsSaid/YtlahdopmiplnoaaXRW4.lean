/-
  RunsRows: for every list of places the law returns true, and the list reads behind the call as it read before. No condition.
-/
import Derived.Test.YtlahdopmiplnoaaXRW
namespace Go.Proofs.Ytlahdopmiplnoaa
open Go Go.ChangeShapes Go.WideShapes Go.ChangeAt Go.RowKit

theorem rowsCalls (l : List SX.Runs.Place) (hok : ∀ p ∈ l, SX.Runs.SeatOk p) (v : Value) (w : World) (h : SX.Rep (SX.Runs.memF w) v (.sl (l.map SX.Runs.Place.ds))) :
    Calls Try.prog 4 #[v] w fun e w' => e = .returned (.bool true) ∧ Below w.heap.size w w' :=
  SX.Runs.lawCalls (us := [v]) (SX.Runs.law4 rfl rfl fun _ ho => SX.Runs.rowsOk hok ho) (.cons (.d h) .nil)

set_option maxRecDepth 100000 in
theorem rowsLifted (os : Os) (started : os.Started) (H : Type) (enc : TypeId × Value → H) :
    ReturnsInHanded {} Try.checked os 4 .any (Rows.runsRowsSpec.pre6 enc Try.prog Try.f4 Rows.runsRowsRow.domain false) (Rows.runsRowsSpec.post enc Try.prog Try.f4 false true false false) := by
  refine returnsInHanded_of_change (C := Try.checked) SX.Runs.ownN started (by kernel_rfl) Try.func4
    (ChangeSpec.witness6 (enc := enc) (C := Try.checked) false ⟨#[], #[.slice none 0 0], []⟩ 8 (by kernel_rfl) (by kernel_rfl) (by kernel_rfl) (by kernel_rfl)) ?_
  intro W base args ds gs before hval0 hW hcnd _
  have hval : ∀ (j : Nat) t v, Try.f4.params[j]? = some t → args[j]? = some v → Value.okWide Try.prog W .any base t v := hval0
  have hW' := hW
  obtain ⟨p, q, hA0, hV, rfl, hfz, hnd⟩ := hW
  have hA : DataW.TrodAll enc Try.prog W 0 (fun _ => true) true Try.f4.params.toList args.toList ds p := hA0
  rw [Try.params4] at hA hval
  obtain ⟨v0, d0, rfl, rfl, h0⟩ := trodAll_one hA
  obtain ⟨rfl, rfl⟩ := trodVars_none hV
  have hs0 := okWide_slice Try.underlying22 (hval 0 22 v0 rfl rfl)
  obtain ⟨l, hl, hok⟩ := SX.Runs.openPlaces hs0 h0
  clear hA0 hval0
  simp only [List.append_nil] at hW'
  refine (rowsCalls l hok v0 W hl).mono fun e W' ⟨he, hb⟩ => ?_
  subst he
  exact ⟨_, rfl, lawPost rfl hW' (fun t ht => by
    rw [Try.params4] at ht
    obtain rfl : t = 22 := by simpa using ht
    exact ⟨by kernel_rfl, of_decide_eq_true (by kernel_rfl)⟩) (by kernel_rfl) rfl hb⟩

theorem runsRows_holds : Rows.RunsRowsSaid :=
  OpenClaim.holds_of_wide 4 Try.f4 rfl rfl rfl rfl rfl rfl rfl ⟨rfl, rfl, rfl, rfl, rfl⟩ rfl rfl rfl rfl rfl (by kernel_rfl) Try.func4 (by kernel_rfl)
    (of_decide_eq_true (by kernel_rfl)) (by unfold Func.isWrapper; first | (rw [if_pos (by decide +kernel)]; kernel_rfl) | (rw [if_neg (by decide +kernel)]; exact ⟨rfl, rfl⟩))
    (fun os started H enc _ => rowsLifted os started H enc)

end Go.Proofs.Ytlahdopmiplnoaa
