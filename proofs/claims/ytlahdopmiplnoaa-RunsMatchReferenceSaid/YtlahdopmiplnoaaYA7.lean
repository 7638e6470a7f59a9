/-
  RunsMatchReference: for every list of places, list of what is taken and choice the law returns true, and all lists read behind the call as they read before. No condition.
-/
import Derived.Test.YtlahdopmiplnoaaYA6
import Derived.Test.YtlahdopmiplnoaaYRW
set_option linter.unusedSimpArgs false
set_option linter.unusedVariables false
set_option linter.unusedSectionVars false
namespace Go.SX.Runs
open Go Go.Proofs
variable {P : Program} (hP : P = Try.prog)
include hP
set_option maxHeartbeats 4000000 in
theorem law3 {l : List Place} {el : List (List D)} {t : List Bool} {et : List (List D)} {c : List Int} {ec : List (List D)} (hok : ∀ p ∈ l, SeatOk p) (hel : el = l.map Place.ds) (het : et = t.map dB) (hec : ec = c.map dI) :
    Fn1 P 3 [.d (.sl el), .d (.sl et), .d (.sl ec)] (.b true) := by
  refine .walk (hP ▸ d3_ok) fun K hK => ?_
  have la : (el.length : Int) = l.length := by simp [hel]
  cbv
  refine .f1z (headR hP) rfl rfl ?_
  cbv
  refine .f1z (fewR hP hel het hec) rfl rfl ?_
  generalize hf : (decide (l.length ≤ 60) && _) = f
  cbv
  refine brk (fun h => ?_) (fun h => ?_)
  · cbv; exact hK _ _ rfl
  simp only [x_not, Bool.not_eq_false'] at h
  subst h
  have hl60 : l.length ≤ 60 ∧ c.length ≤ 60 := by simp at hf; omega
  clear hf
  obtain ⟨hl, hc⟩ := hl60
  have hR := refRowsR hP hel (by omega)
  rw [refFree_eq [] hok] at hR
  have hF := refFreeR hP hel het (by omega)
  rw [refFree_eq t hok] at hF
  have hS := refSinglesR hP hel het hec (by omega) (by omega)
  rw [singles_ref t c hok] at hS
  have hT := refTogetherR hP hok hel hec (by omega) (by omega)
  have r1 := freeI_len l []
  have r2 : ∀ x ∈ freeI l [], x.length ≤ 1000000000 := fun r hr => by have := freeI_mem hr; omega
  have r3 := freeI_len l t
  have r4 : ∀ x ∈ freeI l t, x.length ≤ 1000000000 := fun r hr => by have := freeI_mem hr; omega
  have hsl : (singlesL l t c).length ≤ 1000000000 := by
    have h1 := leftL_len (freeI l t) (freeI l (afterL l t c))
    have h2 := freeI_len l (afterL l t c)
    rw [singlesL]; omega
  have q1 := rowsR hP hel (by omega)
  have q2 := freeR hP hel het (by omega)
  have q3 := togetherR hP hel hec (by omega) (by omega)
  have q4 := singlesR hP hel het hec (by omega) (by omega)
  generalize freeI l [] = a1 at *
  generalize freeI l t = a2 at *
  generalize togetherL l c = a3 at *
  generalize singlesL l t c = a4 at *
  obtain ⟨e1, he1⟩ : ∃ e, e = a1.map dL := ⟨_, rfl⟩
  obtain ⟨e2, he2⟩ : ∃ e, e = a2.map dL := ⟨_, rfl⟩
  obtain ⟨e4, he4⟩ : ∃ e, e = a4.map dI := ⟨_, rfl⟩
  rw [← he1] at hR q1
  rw [← he2] at hF q2
  rw [← he4] at hS q4
  have l1 := listsR hP he1 he1 (by omega) r2
  have l2 := listsR hP he2 he2 (by omega) r4
  have l4 := intsR hP he4 he4 hsl
  rw [decide_eq_true rfl] at l1 l2 l4
  cbv
  refine .f1z q1 rfl rfl ?_
  cbv
  refine .f1z hR rfl rfl ?_
  cbv
  refine .f1z l1 rfl rfl ?_
  cbv
  refine .f1z q2 rfl rfl ?_
  cbv
  refine .f1z hF rfl rfl ?_
  cbv
  refine .f1z l2 rfl rfl ?_
  cbv
  refine .f1z q3 rfl rfl ?_
  cbv
  refine .f1z hT rfl rfl ?_
  cbv
  refine brk (fun h => ?_) (fun h => ?_)
  · cbv
    refine .f1z q4 rfl rfl ?_
    cbv
    refine .f1z hS rfl rfl ?_
    cbv
    refine .f1z l4 rfl rfl ?_
    cbv
    exact hK _ _ rfl
  · simp [x_beq] at h
end Go.SX.Runs
namespace Go.Proofs.Ytlahdopmiplnoaa
open Go Go.ChangeShapes Go.WideShapes Go.ChangeAt Go.RowKit
theorem matchCalls (l : List SX.Runs.Place) (t : List Bool) (c : List Int) (hok : ∀ p ∈ l, SX.Runs.SeatOk p) (v u x : Value) (w : World) (h : SX.Rep (SX.Runs.memF w) v (.sl (l.map SX.Runs.Place.ds))) (k : SX.Rep (SX.Runs.memF w) u (.sl (t.map SX.dB))) (m : SX.Rep (SX.Runs.memF w) x (.sl (c.map SX.dI))) :
    Calls Try.prog 3 #[v, u, x] w fun e w' => e = .returned (.bool true) ∧ Below w.heap.size w w' :=
  SX.Runs.lawCalls (us := [v, u, x]) (SX.Runs.law3 rfl hok rfl rfl rfl) (.cons (.d h) (.cons (.d k) (.cons (.d m) .nil)))

set_option maxRecDepth 100000 in
theorem matchLifted (os : Os) (started : os.Started) (H : Type) (enc : TypeId × Value → H) :
    ReturnsInHanded {} Try.checked os 3 .any (Rows.runsMatchReferenceSpec.pre6 enc Try.prog Try.f3 Rows.runsMatchReferenceRow.domain false) (Rows.runsMatchReferenceSpec.post enc Try.prog Try.f3 false true false false) := by
  refine returnsInHanded_of_change (C := Try.checked) SX.Runs.ownN started (by kernel_rfl) Try.func3
    (ChangeSpec.witness6 (enc := enc) (C := Try.checked) false ⟨#[], #[.slice none 0 0, .slice none 0 0, .slice none 0 0], []⟩ 8 (by kernel_rfl) (by kernel_rfl) (by kernel_rfl) (by kernel_rfl)) ?_
  intro W base args ds gs before hval0 hW hcnd _
  have hval : ∀ (j : Nat) t v, Try.f3.params[j]? = some t → args[j]? = some v → Value.okWide Try.prog W .any base t v := hval0
  have hW' := hW
  obtain ⟨p, q, hA0, hV, rfl, hfz, hnd⟩ := hW
  have hA : DataW.TrodAll enc Try.prog W 0 (fun _ => true) true Try.f3.params.toList args.toList ds p := hA0
  rw [Try.params3] at hA hval
  obtain ⟨v0, v1, v2, d0, d1, d2, p0, p1, p2, rfl, rfl, rfl, h0, h1, h2⟩ := trodAll_three hA
  obtain ⟨rfl, rfl⟩ := trodVars_none hV
  obtain ⟨l, hl, hok⟩ := SX.Runs.openPlaces (okWide_slice Try.underlying22 (hval 0 22 v0 rfl rfl)) h0
  obtain ⟨t, ht⟩ := SX.Runs.openBools (okWide_slice Try.underlying23 (hval 1 23 v1 rfl rfl)) h1
  obtain ⟨c, hc⟩ := SX.Runs.openInts (okWide_slice Try.underlying24 (hval 2 24 v2 rfl rfl)) h2
  clear hA0 hval0
  simp only [List.append_nil] at hW'
  refine (matchCalls l t c hok v0 v1 v2 W hl ht hc).mono fun e W' ⟨he, hb⟩ => ?_
  subst he
  exact ⟨_, rfl, lawPost rfl hW' (fun t ht => by
    rw [Try.params3] at ht
    have ht : t = 22 ∨ t = 23 ∨ t = 24 := by simpa using ht
    rcases ht with rfl | rfl | rfl <;> exact ⟨by kernel_rfl, of_decide_eq_true (by kernel_rfl)⟩) (by kernel_rfl) rfl hb⟩

theorem runsMatchReference_holds : Rows.RunsMatchReferenceSaid :=
  OpenClaim.holds_of_wide 3 Try.f3 rfl rfl rfl rfl rfl rfl rfl ⟨rfl, rfl, rfl, rfl, rfl⟩ rfl rfl rfl rfl rfl (by kernel_rfl) Try.func3 (by kernel_rfl)
    (of_decide_eq_true (by kernel_rfl)) (by unfold Func.isWrapper; first | (rw [if_pos (by decide +kernel)]; kernel_rfl) | (rw [if_neg (by decide +kernel)]; exact ⟨rfl, rfl⟩))
    (fun os started H enc _ => matchLifted os started H enc)

end Go.Proofs.Ytlahdopmiplnoaa
#print axioms Go.Proofs.Ytlahdopmiplnoaa.runsMatchReference_holds
