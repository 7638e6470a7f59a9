/-
  Runs: from a law's walk to its statement.
-/
import Derived.Test.YtlahdopmiplnoaaYRO
import Derived.OpenShut
import Derived.Test.YtlahdopmiplnoaaYRP5
set_option linter.unusedSimpArgs false
set_option linter.unusedVariables false
set_option linter.unusedSectionVars false
namespace Go.Proofs.Ytlahdopmiplnoaa
open Go Go.ChangeShapes Go.WideShapes Go.ChangeAt Go.RowKit

section
variable {H : Type} {enc : TypeId × Value → H} {W W' : World}
theorem allStay {sp : Nat → Bool} : ∀ {ts : List TypeId} {vs : List Value} {ds : List (DataW H)} {ps : List MemPlace}, (∀ t ∈ ts, Try.prog.readableRec t = true ∧ t < Try.prog.types.size) →
    DataW.TrodAll enc Try.prog W 0 (fun _ => true) true ts vs ds ps → (∀ x ∈ ps, W.sameAt W' x) → (∀ x ∈ ps, sp x.block = true) → DataW.TrodAll enc Try.prog W' 0 sp true ts vs ds ps
  | [], vs, ds, ps, _, h, _, _ => by
    obtain ⟨rfl, rfl, rfl⟩ := trodAll_nil h
    exact rfl
  | t :: ts, vs, ds, ps, ht, h, hs, hp => by
    obtain ⟨v, vs', d, ds', p, q, rfl, rfl, rfl, h1, h2⟩ := trodAll_cons h
    obtain ⟨k1, k2⟩ := ht t (by simp)
    exact ⟨p, q, WideElems.Trod_stays SX.Runs.laidOut k1 k2 h1 (fun x hx => hs x (List.mem_append_left _ hx)) (fun x hx => hp x (List.mem_append_left _ hx)),
      allStay (fun t' ht' => ht t' (by simp [ht'])) h2 (fun x hx => hs x (List.mem_append_right _ hx)) (fun x hx => hp x (List.mem_append_right _ hx)), rfl⟩

/-- A law that answers true, and turns nothing that was there. -/
theorem lawPost {f : Func} {s : ChangeSpec} {args : Array Value} {ds : List (DataW H)} {ps : List MemPlace} (hvars : s.vars = []) (hW : DataW.Whole enc Try.prog f.params.toList s.vars false W args.toList ds [] ps)
    (hts : ∀ t ∈ f.params.toList, Try.prog.readableRec t = true ∧ t < Try.prog.types.size) (hres : f.resultTypes = #[4]) (hfn : s.fn H (ds ++ []) = { results := [.lit (.bool true)], args := ds }) (hb : Below W.heap.size W W') :
    s.post enc Try.prog f false true false false W args (.bool true) W' := by
  have hlt : ∀ x ∈ ps, x.block < W.heap.size := fun x hx => hW.lt x hx
  have hW0 := hW
  obtain ⟨p, q, hA, hV, rfl, hz, hn⟩ := hW0
  rw [hvars] at hV
  obtain ⟨_, rfl⟩ := trodVars_none hV
  simp only [List.append_nil] at hW hlt hz
  have stay : ∀ sp : Nat → Bool, (∀ x ∈ p, sp x.block = true) → DataW.TrodAll enc Try.prog W' 0 sp true f.params.toList args.toList ds p := fun sp hsp => allStay hts hA (fun x hx => hb.same (hlt x hx)) hsp
  have res : ∀ (b : Nat) (sp : Nat → Bool) (hd : Bool), DataW.TrodAll enc Try.prog W' b sp hd f.resultTypes.toList ((Value.bool true).resultList f.resultTypes.size) [.lit (.bool true)] [] := fun b sp hd => by
    rw [hres]
    exact trodAll_mk1 (shut_bool Try.underlying4 _)
  have vars : ∀ sp : Nat → Bool, DataW.TrodVars enc Try.prog W' sp s.vars (s.fn H (ds ++ [])).vars [] := fun sp => by rw [hvars, hfn]; rfl
  refine ⟨ds, [], p, [], p, [], hW, by rw [hfn]; exact res _ _ _, by rw [hfn]; exact stay _ (fun x hx => by simpa using hlt x hx), vars _, hb.frame _, fun _ => ⟨?_, _, _, ([] ++ p) ++ [], ⟨[] ++ p, [], trodAll_append (stay _ fun _ _ => rfl) (res _ _ _), vars _, rfl, ?_, fun h => by cases h⟩, fun x hx _ => by simpa using hx⟩⟩
  · rw [hres]
    exact ok_one (f := { f with resultTypes := #[4] }) rfl rfl (okWide_bool_mk Try.underlying4 _)
  · intro b off hx
    have hx' : MemPlace.cell b off ∈ p := by simpa using hx
    rw [hb.frozen (p := ⟨b, off, none⟩) (hlt _ hx')]
    exact hz b off hx'
end
end Go.Proofs.Ytlahdopmiplnoaa
/-
  Runs: a byte handed to a law.
-/
namespace Go.SX.Runs
open Go Go.Proofs Go.Proofs.Ytlahdopmiplnoaa
variable {H : Type} {enc : TypeId × Value → H} {w : World} {d : DataW H} {ps : List MemPlace}
theorem openByte {v : Value} (hv : ∃ n, v = .int .u8 n) (h : DataW.Trod enc Try.prog w 0 (fun _ => true) true 5 v d ps) : ∃ n, v = .int .u8 n ∧ (0 ≤ n ∧ n ≤ 255) := by
  obtain ⟨n, rfl⟩ := hv
  obtain ⟨fuel, h⟩ := h
  obtain ⟨m, h1, _, h3⟩ := DataW.trod_int Try.underlying5 h
  have e : n = m := by simpa [Value.cells] using h1
  subst e
  refine ⟨n, rfl, ?_⟩
  rw [Lit.wf, Bool.and_eq_true, decide_eq_true_eq, decide_eq_true_eq] at h3
  exact h3
end Go.SX.Runs
/-
  RunsTogether: for every list of places, list of what is taken, choice and three numbers the law returns true, and all lists read behind the call as they read before. No condition.
-/
namespace Go.Proofs.Ytlahdopmiplnoaa
open Go Go.ChangeShapes Go.WideShapes Go.ChangeAt Go.RowKit

theorem togetherCalls (l0 : List SX.Runs.Place) (l1 : List Bool) (l2 : List Int) (l3 : Int) (l4 : Int) (l5 : Int) (_hok : ∀ p ∈ l0, SX.Runs.SeatOk p) (b3 : 0 ≤ l3 ∧ l3 ≤ 255) (b4 : 0 ≤ l4 ∧ l4 ≤ 255) (b5 : 0 ≤ l5 ∧ l5 ≤ 255) (v0 v1 v2 : Value) (w : World) (r0 : SX.Rep (SX.Runs.memF w) v0 (.sl (l0.map SX.Runs.Place.ds))) (r1 : SX.Rep (SX.Runs.memF w) v1 (.sl (l1.map SX.dB))) (r2 : SX.Rep (SX.Runs.memF w) v2 (.sl (l2.map SX.dI))) :
    Calls Try.prog 6 #[v0, v1, v2, .int .u8 l3, .int .u8 l4, .int .u8 l5] w fun e w' => e = .returned (.bool true) ∧ Below w.heap.size w w' :=
  SX.Runs.lawCalls (us := [v0, v1, v2, .int .u8 l3, .int .u8 l4, .int .u8 l5]) (SX.Runs.law6 rfl l3 l4 l5 b3.1 b3.2 b4.1 b4.2 b5.1 b5.2 rfl rfl rfl (fun _ ho => SX.Runs.togOk ho)) (.cons (.d r0) (.cons (.d r1) (.cons (.d r2) (.cons (.d (.val _ rfl)) (.cons (.d (.val _ rfl)) (.cons (.d (.val _ rfl)) .nil))))))

set_option maxRecDepth 100000 in
theorem togetherLifted (os : Os) (started : os.Started) (H : Type) (enc : TypeId × Value → H) :
    ReturnsInHanded {} Try.checked os 6 .any (Rows.runsTogetherSpec.pre6 enc Try.prog Try.f6 Rows.runsTogetherRow.domain false) (Rows.runsTogetherSpec.post enc Try.prog Try.f6 false true false false) := by
  refine returnsInHanded_of_change (C := Try.checked) SX.Runs.ownN started (by kernel_rfl) Try.func6
    (ChangeSpec.witness6 (enc := enc) (C := Try.checked) false ⟨#[], #[.slice none 0 0, .slice none 0 0, .slice none 0 0, .int .u8 0, .int .u8 0, .int .u8 0], []⟩ 8 (by kernel_rfl) (by kernel_rfl) (by kernel_rfl) (by kernel_rfl)) ?_
  intro W base args ds gs before hval0 hW hcnd _
  have hval : ∀ (j : Nat) t v, Try.f6.params[j]? = some t → args[j]? = some v → Value.okWide Try.prog W .any base t v := hval0
  have hW' := hW
  obtain ⟨p, q, hA0, hV, rfl, hfz, hnd⟩ := hW
  have hA : DataW.TrodAll enc Try.prog W 0 (fun _ => true) true Try.f6.params.toList args.toList ds p := hA0
  rw [Try.params6] at hA hval
  clear hA0 hval0
  obtain ⟨v0, vs0, d0, ds0, p0, q0, hvs, rfl, rfl, h0, hA0⟩ := trodAll_cons hA
  obtain ⟨v1, vs1, d1, ds1, p1, q1, rfl, rfl, rfl, h1, hA1⟩ := trodAll_cons hA0
  obtain ⟨v2, vs2, d2, ds2, p2, q2, rfl, rfl, rfl, h2, hA2⟩ := trodAll_cons hA1
  obtain ⟨v3, vs3, d3, ds3, p3, q3, rfl, rfl, rfl, h3, hA3⟩ := trodAll_cons hA2
  obtain ⟨v4, vs4, d4, ds4, p4, q4, rfl, rfl, rfl, h4, hA4⟩ := trodAll_cons hA3
  obtain ⟨v5, vs5, d5, ds5, p5, q5, rfl, rfl, rfl, h5, hA5⟩ := trodAll_cons hA4
  obtain ⟨rfl, rfl, rfl⟩ := trodAll_nil hA5
  have hargs : args = #[v0, v1, v2, v3, v4, v5] := Array.ext' hvs
  subst hargs
  obtain ⟨rfl, rfl⟩ := trodVars_none hV
  obtain ⟨l0, r0, hok⟩ := SX.Runs.openPlaces (okWide_slice Try.underlying22 (hval 0 22 v0 rfl rfl)) h0
  obtain ⟨l1, r1⟩ := SX.Runs.openBools (okWide_slice Try.underlying23 (hval 1 23 v1 rfl rfl)) h1
  obtain ⟨l2, r2⟩ := SX.Runs.openInts (okWide_slice Try.underlying24 (hval 2 24 v2 rfl rfl)) h2
  obtain ⟨l3, rfl, b3⟩ := SX.Runs.openByte (okWide_int Try.underlying5 (hval 3 5 v3 rfl rfl)) h3
  obtain ⟨l4, rfl, b4⟩ := SX.Runs.openByte (okWide_int Try.underlying5 (hval 4 5 v4 rfl rfl)) h4
  obtain ⟨l5, rfl, b5⟩ := SX.Runs.openByte (okWide_int Try.underlying5 (hval 5 5 v5 rfl rfl)) h5
  simp only [List.append_nil] at hW'
  refine (togetherCalls l0 l1 l2 l3 l4 l5 hok b3 b4 b5 v0 v1 v2 W r0 r1 r2).mono fun e W' ⟨he, hb⟩ => ?_
  subst he
  exact ⟨_, rfl, lawPost rfl hW' (fun t ht => by
    rw [Try.params6] at ht
    simp only [List.mem_cons, List.mem_toArray, List.not_mem_nil, or_false] at ht
    rcases ht with rfl | rfl | rfl | rfl | rfl | rfl <;> exact ⟨by kernel_rfl, of_decide_eq_true (by kernel_rfl)⟩) (by kernel_rfl) rfl hb⟩

theorem runsTogether_holds : Rows.RunsTogetherSaid :=
  OpenClaim.holds_of_wide 6 Try.f6 rfl rfl rfl rfl rfl rfl rfl ⟨rfl, rfl, rfl, rfl, rfl⟩ rfl rfl rfl rfl rfl (by kernel_rfl) Try.func6 (by kernel_rfl)
    (of_decide_eq_true (by kernel_rfl)) (by unfold Func.isWrapper; first | (rw [if_pos (by decide +kernel)]; kernel_rfl) | (rw [if_neg (by decide +kernel)]; exact ⟨rfl, rfl⟩))
    (fun os started H enc _ => togetherLifted os started H enc)

end Go.Proofs.Ytlahdopmiplnoaa
