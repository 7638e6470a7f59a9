/-
  Runs: from a law's walk to its statement.
-/
import Derived.Test.YtlahdopmiplnoaaYRO
import Derived.OpenShut
import Derived.Test.YtlahdopmiplnoaaYRP5
namespace Go.Proofs.Ytlahdopmiplnoaa
open Go Go.ChangeShapes Go.WideShapes Go.ChangeAt Go.RowKit

section
variable {H : Type} {enc : TypeId × Value → H} {W W' : World}
theorem allStay {sp : Nat → Bool} : ∀ {ts : List TypeId} {vs : List Value} {ds : List (DataW H)} {ps : List MemPlace}, (∀ t ∈ ts, Try.prog.readableRec t = true ∧ t < Try.prog.types.size) →
    DataW.TrodAll enc Try.prog W 0 (fun _ => true) true ts vs ds ps → (∀ x ∈ ps, W.sameAt W' x) → (∀ x ∈ ps, sp x.block = true) → DataW.TrodAll enc Try.prog W' 0 sp true ts vs ds ps
  | [], vs, ds, ps, _, h, _, _ => by
    obtain ⟨rfl, rfl, rfl⟩ := trodAll_nil h
    exact rfl
  | t :: ts, vs, ds, ps, ht, h, hs, hp => by
    obtain ⟨v, vs', d, ds', p, q, rfl, rfl, rfl, h1, h2⟩ := trodAll_cons h
    obtain ⟨k1, k2⟩ := ht t (by simp)
    exact ⟨p, q, WideElems.Trod_stays SX.Runs.laidOut k1 k2 h1 (fun x hx => hs x (List.mem_append_left _ hx)) (fun x hx => hp x (List.mem_append_left _ hx)),
      allStay (fun t' ht' => ht t' (by simp [ht'])) h2 (fun x hx => hs x (List.mem_append_right _ hx)) (fun x hx => hp x (List.mem_append_right _ hx)), rfl⟩

/-- A law that answers true, and turns nothing that was there. -/
theorem lawPost {f : Func} {s : ChangeSpec} {args : Array Value} {ds : List (DataW H)} {ps : List MemPlace} (hvars : s.vars = []) (hW : DataW.Whole enc Try.prog f.params.toList s.vars false W args.toList ds [] ps)
    (hts : ∀ t ∈ f.params.toList, Try.prog.readableRec t = true ∧ t < Try.prog.types.size) (hres : f.resultTypes = #[4]) (hfn : s.fn H (ds ++ []) = { results := [.lit (.bool true)], args := ds }) (hb : Below W.heap.size W W') :
    s.post enc Try.prog f false true false false W args (.bool true) W' := by
  have hlt : ∀ x ∈ ps, x.block < W.heap.size := fun x hx => hW.lt x hx
  have hW0 := hW
  obtain ⟨p, q, hA, hV, rfl, hz, hn⟩ := hW0
  rw [hvars] at hV
  obtain ⟨_, rfl⟩ := trodVars_none hV
  simp only [List.append_nil] at hW hlt hz
  have stay : ∀ sp : Nat → Bool, (∀ x ∈ p, sp x.block = true) → DataW.TrodAll enc Try.prog W' 0 sp true f.params.toList args.toList ds p := fun sp hsp => allStay hts hA (fun x hx => hb.same (hlt x hx)) hsp
  have res : ∀ (b : Nat) (sp : Nat → Bool) (hd : Bool), DataW.TrodAll enc Try.prog W' b sp hd f.resultTypes.toList ((Value.bool true).resultList f.resultTypes.size) [.lit (.bool true)] [] := fun b sp hd => by
    rw [hres]
    exact trodAll_mk1 (shut_bool Try.underlying4 _)
  have vars : ∀ sp : Nat → Bool, DataW.TrodVars enc Try.prog W' sp s.vars (s.fn H (ds ++ [])).vars [] := fun sp => by rw [hvars, hfn]; rfl
  refine ⟨ds, [], p, [], p, [], hW, by rw [hfn]; exact res _ _ _, by rw [hfn]; exact stay _ (fun x hx => by simpa using hlt x hx), vars _, hb.frame _, fun _ => ⟨?_, _, _, ([] ++ p) ++ [], ⟨[] ++ p, [], trodAll_append (stay _ fun _ _ => rfl) (res _ _ _), vars _, rfl, ?_, fun h => by cases h⟩, fun x hx _ => by simpa using hx⟩⟩
  · rw [hres]
    exact ok_one (f := { f with resultTypes := #[4] }) rfl rfl (okWide_bool_mk Try.underlying4 _)
  · intro b off hx
    have hx' : MemPlace.cell b off ∈ p := by simpa using hx
    rw [hb.frozen (p := ⟨b, off, none⟩) (hlt _ hx')]
    exact hz b off hx'
end
end Go.Proofs.Ytlahdopmiplnoaa
/-
  RunsLeft: for every list of places, list of what is taken and choice the law returns true, and all three lists read behind the call as they read before. No condition.
-/
namespace Go.Proofs.Ytlahdopmiplnoaa
open Go Go.ChangeShapes Go.WideShapes Go.ChangeAt Go.RowKit

theorem leftCalls (l : List SX.Runs.Place) (t : List Bool) (c : List Int) (hok : ∀ p ∈ l, SX.Runs.SeatOk p) (v u x : Value) (w : World) (h : SX.Rep (SX.Runs.memF w) v (.sl (l.map SX.Runs.Place.ds))) (k : SX.Rep (SX.Runs.memF w) u (.sl (t.map SX.dB))) (m : SX.Rep (SX.Runs.memF w) x (.sl (c.map SX.dI))) :
    Calls Try.prog 7 #[v, u, x] w fun e w' => e = .returned (.bool true) ∧ Below w.heap.size w w' :=
  SX.Runs.lawCalls (us := [v, u, x]) (SX.Runs.law7 rfl rfl rfl rfl (fun _ ho => SX.Runs.leftOk hok ho)) (.cons (.d h) (.cons (.d k) (.cons (.d m) .nil)))

set_option maxRecDepth 100000 in
theorem leftLifted (os : Os) (started : os.Started) (H : Type) (enc : TypeId × Value → H) :
    ReturnsInHanded {} Try.checked os 7 .any (Rows.runsLeftSpec.pre6 enc Try.prog Try.f7 Rows.runsLeftRow.domain false) (Rows.runsLeftSpec.post enc Try.prog Try.f7 false true false false) := by
  refine returnsInHanded_of_change (C := Try.checked) SX.Runs.ownN started (by kernel_rfl) Try.func7
    (ChangeSpec.witness6 (enc := enc) (C := Try.checked) false ⟨#[], #[.slice none 0 0, .slice none 0 0, .slice none 0 0], []⟩ 8 (by kernel_rfl) (by kernel_rfl) (by kernel_rfl) (by kernel_rfl)) ?_
  intro W base args ds gs before hval0 hW hcnd _
  have hval : ∀ (j : Nat) t v, Try.f7.params[j]? = some t → args[j]? = some v → Value.okWide Try.prog W .any base t v := hval0
  have hW' := hW
  obtain ⟨p, q, hA0, hV, rfl, hfz, hnd⟩ := hW
  have hA : DataW.TrodAll enc Try.prog W 0 (fun _ => true) true Try.f7.params.toList args.toList ds p := hA0
  rw [Try.params7] at hA hval
  obtain ⟨v0, v1, v2, d0, d1, d2, p0, p1, p2, rfl, rfl, rfl, h0, h1, h2⟩ := trodAll_three hA
  obtain ⟨rfl, rfl⟩ := trodVars_none hV
  obtain ⟨l, hl, hok⟩ := SX.Runs.openPlaces (okWide_slice Try.underlying22 (hval 0 22 v0 rfl rfl)) h0
  obtain ⟨t, ht⟩ := SX.Runs.openBools (okWide_slice Try.underlying23 (hval 1 23 v1 rfl rfl)) h1
  obtain ⟨c, hc⟩ := SX.Runs.openInts (okWide_slice Try.underlying24 (hval 2 24 v2 rfl rfl)) h2
  clear hA0 hval0
  simp only [List.append_nil] at hW'
  refine (leftCalls l t c hok v0 v1 v2 W hl ht hc).mono fun e W' ⟨he, hb⟩ => ?_
  subst he
  exact ⟨_, rfl, lawPost rfl hW' (fun t ht => by
    rw [Try.params7] at ht
    have ht : t = 22 ∨ t = 23 ∨ t = 24 := by simpa using ht
    rcases ht with rfl | rfl | rfl <;> exact ⟨by kernel_rfl, of_decide_eq_true (by kernel_rfl)⟩) (by kernel_rfl) rfl hb⟩

theorem runsLeft_holds : Rows.RunsLeftSaid :=
  OpenClaim.holds_of_wide 7 Try.f7 rfl rfl rfl rfl rfl rfl rfl ⟨rfl, rfl, rfl, rfl, rfl⟩ rfl rfl rfl rfl rfl (by kernel_rfl) Try.func7 (by kernel_rfl)
    (of_decide_eq_true (by kernel_rfl)) (by unfold Func.isWrapper; first | (rw [if_pos (by decide +kernel)]; kernel_rfl) | (rw [if_neg (by decide +kernel)]; exact ⟨rfl, rfl⟩))
    (fun os started H enc _ => leftLifted os started H enc)

end Go.Proofs.Ytlahdopmiplnoaa
